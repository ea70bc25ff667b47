import PyProof.Rows.All
import Wide.All
import OpenK.AllK
import Wide.FinOn
import HandS.ForMost
import HandS.EndBits
import HandS.Wide
import HandS.WideBits
import HandS.TupAny
import HandS.TupLe
import HandS.Style
import HandS.Flow
import HandS.Zip
import HandS.More
import HandS.Exc
import HandS.TryOnly
import HandS.ExcOwn
import HandS.WordsExc
import HandS.TryMany
import HandS.Lambda
import HandS.IsInst
import PyProof.ReprLen
import PyProof.Rows.ChunkEnd
import HandS.TupMul
import KE.BitLaws
import HandS.SortInts
import HandS.ExcSuper
import KE.KSuper
import KE.KExcIs
import KE.GoesEnum
import KE.KNestM
import KE.KTupSum
import PyProof.NeKinds
import HandS.Defaults
import KE.OsArith
import PySem.Challenge.RW_putinonce_k46_windows_told_and_made_anew
set_option Elab.async false
set_option linter.all false
set_option autoImplicit false
set_option maxRecDepth 100000
set_option maxHeartbeats 4000000
namespace HA
abbrev Wq {P : Prop} (_p : P) : Prop := P
theorem Wq.get {P : Prop} {p : P} : Wq p := p
end HA
/-! A1: abstract data (trees), abstract memory, and how they lie in the layer's heap. -/
namespace HA
open PySem PySem.Spec PyProof.Rows L2

/-- a value as a tree: tuples and frozen lists by their things, changeable objects by address -/
inductive D where
  | non | bl (b : Bool) | int (i : Int) | str (x : Str) | tup (xs : List D) | lst (xs : List D) | frz (xs : List D) | ref (a : Addr) | ty (n : String)

/-- a changeable object -/
inductive Cell where
  | lst (xs : List D)
  | ins (C : Addr) (fs : List (Str × D))
  | deal (l : Addr)
  | pool
  | tab (q : Str)
  | rng (lo hi : Int)
  | set (S : Int → Bool) (n : Nat)
  | dic (kvs : List (Key × D))
  | dtp (kvs : List (List Key × D))
abbrev Mem := Addr → Option Cell
def mset (M : Mem) (a : Addr) (c : Cell) : Mem := fun b => if b = a then some c else M b
theorem mset_same {M : Mem} {a : Addr} {c : Cell} : mset M a c a = some c := by simp [mset]
theorem mset_ne {M : Mem} {a b : Addr} {c : Cell} (h : b ≠ a) : mset M a c b = M b := by simp [mset, h]
theorem mset_mset {M : Mem} {a : Addr} {c c' : Cell} : mset (mset M a c) a c' = mset M a c' := by
  funext b; by_cases h : b = a <;> simp [mset, h]
theorem mset_comm {M : Mem} {a b : Addr} {c c' : Cell} (h : a ≠ b) : mset (mset M a c) b c' = mset (mset M b c') a c := (by exact HA.Wq.get : @HA.Wq (mset (mset M a c) b c' = mset (mset M b c') a c) (by
  funext z
  by_cases h1 : z = a
  · subst h1; rw [mset_ne h, mset_same, mset_same]
  · by_cases h2 : z = b
    · subst h2; rw [mset_same, mset_ne h1, mset_same]
    · rw [mset_ne h2, mset_ne h1, mset_ne h1, mset_ne h2]))
theorem mset_self {M : Mem} {a : Addr} {c : Cell} (h : M a = some c) : mset M a c = M := (by exact HA.Wq.get : @HA.Wq (mset M a c = M) (by
  funext z
  by_cases h1 : z = a
  · subst h1; rw [mset_same, h]
  · rw [mset_ne h1]))
/-- more is known -/
def MLe (M M' : Mem) : Prop := ∀ a c, M a = some c → M' a = some c
theorem MLe.refl (M : Mem) : MLe M M := fun _ _ h => h
theorem MLe.trans {M N O : Mem} (h : MLe M N) (k : MLe N O) : MLe M O := fun a c e => k a c (h a c e)
theorem MLe.new {M : Mem} {a : Addr} {c : Cell} (h : M a = none) : MLe M (mset M a c) := fun b d e => by
  rw [mset_ne (fun z => by subst z; rw [h] at e; cases e)]; exact e
theorem MLe.new2 {M N : Mem} {a : Addr} {c : Cell} (h : N a = none) (k : MLe M N) : MLe M (mset N a c) := k.trans (.new h)
theorem none_ne {M : Mem} {a b : Addr} {c : Cell} (h : M a = none) (k : M b = some c) : b ≠ a := fun z => by
  subst z; rw [h] at k; cases k

/-- a tuple: laid in the call, or of the written part -/
def TpAt (K : PySem.W.Frag) (G : Hp) (a : Addr) (xs : List V) : Prop :=
  G a = some (.tup xs) ∨ ∃ (o : Obj) (its : Array Value) (n : Nat), K.lookup a = some o ∧ o.cls = .type "tuple" ∧ o.data = .seq its n ∧ its.size ≤ sizeLine ∧ Vals xs its.toList
theorem TpAt.sq {K : PySem.W.Frag} {G : Hp} {a : Addr} {xs : List V} (h : TpAt K G a xs) : SqT K G a xs := h.elim (fun z => .inl (.inl z)) .inr
theorem TpAt.up {K : PySem.W.Frag} {G G' : Hp} {a : Addr} {xs : List V} (e : Same G G') (h : TpAt K G a xs) : TpAt K G' a xs := h.elim (fun z => .inl (e _ _ z)) .inr
mutual
/-- d lies at v, in the frozen heap G -/
inductive Rp (K : PySem.W.Frag) (G : Hp) : D → V → Prop
  | non : Rp K G .non .non
  | bl (b : Bool) : Rp K G (.bl b) (.bl b)
  | int (i : Int) : Rp K G (.int i) (.int i)
  | str (x : Str) : Rp K G (.str x) (.str x)
  | tup {a : Addr} {vs : List V} {ds : List D} : TpAt K G a vs → RpA K G ds vs → Rp K G (.tup ds) (.ref a)
  | lst {a : Addr} {vs : List V} {ds : List D} : G a = some (.lst vs) → RpA K G ds vs → Rp K G (.lst ds) (.ref a)
  | frz {a : Addr} {vs : List V} {ds : List D} : SqL K G a vs → RpA K G ds vs → Rp K G (.frz ds) (.ref a)
  | ref (a : Addr) : Rp K G (.ref a) (.ref a)
  | ty (n : String) : Rp K G (.ty n) (.ty n)
inductive RpA (K : PySem.W.Frag) (G : Hp) : List D → List V → Prop
  | nil : RpA K G [] []
  | cons {d : D} {v : V} {ds : List D} {vs : List V} : Rp K G d v → RpA K G ds vs → RpA K G (d :: ds) (v :: vs)
end

theorem same_sqt {K : PySem.W.Frag} {G G' : Hp} {a : Addr} {xs : List V} (e : Same G G') (h : SqT K G a xs) : SqT K G' a xs := (by exact HA.Wq.get : @HA.Wq (SqT K G' a xs) (by
  rcases h with (h | ⟨o, h⟩) | h
  · exact Or.inl (.inl (e _ _ h))
  · exact Or.inl (.inr ⟨o, e _ _ h⟩)
  · exact Or.inr h))
mutual
theorem Rp.up {K : PySem.W.Frag} {G G' : Hp} (e : Same G G') : ∀ {d : D} {v : V}, Rp K G d v → Rp K G' d v
  | _, _, .non => .non
  | _, _, .bl b => .bl b
  | _, _, .int i => .int i
  | _, _, .str x => .str x
  | _, _, .tup h k => .tup (h.up e) (RpA.up e k)
  | _, _, .lst h k => .lst (e _ _ h) (RpA.up e k)
  | _, _, .frz h k => .frz (e.seq h) (RpA.up e k)
  | _, _, .ref a => .ref a
  | _, _, .ty n => .ty n
theorem RpA.up {K : PySem.W.Frag} {G G' : Hp} (e : Same G G') : ∀ {d : List D} {v : List V}, RpA K G d v → RpA K G' d v
  | _, _, .nil => .nil
  | _, _, .cons h k => .cons (Rp.up e h) (RpA.up e k)
end
section
variable {K : PySem.W.Frag} {G : Hp}
theorem RpA.len : ∀ {ds : List D} {vs : List V}, RpA K G ds vs → ds.length = vs.length
  | _, _, .nil => rfl
  | _, _, .cons _ k => by simp [RpA.len k]
theorem RpA.get : ∀ {ds : List D} {vs : List V} {i : Nat} {d : D}, RpA K G ds vs → ds[i]? = some d → ∃ v, vs[i]? = some v ∧ Rp K G d v
  | _, _, _, _, .nil, e => by simp at e
  | _, _, 0, _, .cons h _, e => by simp at e; subst e; exact ⟨_, rfl, h⟩
  | _, _, i + 1, d, .cons _ k, e => by
    obtain ⟨v, h1, h2⟩ := RpA.get (i := i) (d := d) k (by simpa using e)
    exact ⟨v, by simpa using h1, h2⟩
theorem RpA.getV : ∀ {ds : List D} {vs : List V} {i : Nat} {v : V}, RpA K G ds vs → vs[i]? = some v → ∃ d, ds[i]? = some d ∧ Rp K G d v
  | _, _, _, _, .nil, e => by simp at e
  | _, _, 0, _, .cons h _, e => by simp at e; subst e; exact ⟨_, rfl, h⟩
  | _, _, i + 1, d, .cons _ k, e => by
    obtain ⟨v, h1, h2⟩ := RpA.getV (i := i) (v := d) k (by simpa using e)
    exact ⟨v, by simpa using h1, h2⟩
theorem RpA.app : ∀ {ds es : List D} {vs ws : List V}, RpA K G ds vs → RpA K G es ws → RpA K G (ds ++ es) (vs ++ ws)
  | _, _, _, _, .nil, k => k
  | _, _, _, _, .cons h t, k => .cons h (RpA.app t k)
theorem RpA.take : ∀ {ds : List D} {vs : List V} (n : Nat), RpA K G ds vs → RpA K G (ds.take n) (vs.take n)
  | _, _, 0, _ => by simpa using RpA.nil
  | _, _, n + 1, .nil => by simpa using RpA.nil
  | _, _, n + 1, .cons h t => .cons h (RpA.take n t)
theorem RpA.drop : ∀ {ds : List D} {vs : List V} (n : Nat), RpA K G ds vs → RpA K G (ds.drop n) (vs.drop n)
  | _, _, 0, h => h
  | _, _, n + 1, .nil => by simpa using RpA.nil
  | _, _, n + 1, .cons h t => RpA.drop n t
theorem RpA.set {d : D} {v : V} (r : Rp K G d v) : ∀ {ds : List D} {vs : List V} (i : Nat), RpA K G ds vs → RpA K G (ds.set i d) (vs.set i v)
  | _, _, _, .nil => .nil
  | _, _, 0, .cons _ t => .cons r t
  | _, _, i + 1, .cons h t => .cons h (RpA.set r i t)
theorem RpA.reverse {ds : List D} {vs : List V} (h : RpA K G ds vs) : RpA K G ds.reverse vs.reverse := (by exact HA.Wq.get : @HA.Wq (RpA K G ds.reverse vs.reverse) (by
  induction ds generalizing vs with
  | nil => cases h; exact .nil
  | cons d t ih =>
    cases h with
    | cons a b => simp only [List.reverse_cons]; exact (ih b).app (.cons a .nil)))
theorem RpA.dropLast {ds : List D} {vs : List V} (h : RpA K G ds vs) : RpA K G ds.dropLast vs.dropLast := by
  rw [List.dropLast_eq_take, List.dropLast_eq_take, h.len]; exact h.take _
theorem RpA.rep {ds : List D} {vs : List V} (h : RpA K G ds vs) : ∀ n : Nat, RpA K G (List.replicate n ds).flatten (List.replicate n vs).flatten
  | 0 => .nil
  | n + 1 => by simp only [List.replicate_succ, List.flatten_cons]; exact h.app (RpA.rep h n)
theorem RpA.ints : ∀ ns : List Int, RpA K G (ns.map D.int) (ns.map V.int)
  | [] => .nil
  | n :: r => .cons (.int n) (RpA.ints r)
theorem RpA.of_ints : ∀ {ns : List Int} {vs : List V}, RpA K G (ns.map D.int) vs → vs = ns.map V.int
  | [], _, h => by cases h; rfl
  | n :: r, _, h => by
    cases h with
    | cons a b => cases a; rw [RpA.of_ints b]; rfl
theorem RpA.of_bls : ∀ {ns : List Bool} {vs : List V}, RpA K G (ns.map D.bl) vs → vs = ns.map V.bl
  | [], _, h => by cases h; rfl
  | n :: r, _, h => by
    cases h with
    | cons a b => cases a; rw [RpA.of_bls b]; rfl
theorem RpA.of_strs : ∀ {ns : List Str} {vs : List V}, RpA K G (ns.map D.str) vs → vs = ns.map V.str
  | [], _, h => by cases h; rfl
  | n :: r, _, h => by
    cases h with
    | cons a b => cases a; rw [RpA.of_strs b]; rfl
end

/-- attributes by name -/
abbrev FR (K : PySem.W.Frag) (G : Hp) : List (Str × D) → List (Str × V) → Prop := Paired fun (p : Str × D) (q : Str × V) => p.1 = q.1 ∧ Rp K G p.2 q.2
def putD (f : Str) (v : D) : List (Str × D) → List (Str × D)
  | [] => [(f, v)]
  | (g, x) :: r => if g = f then (g, v) :: r else (g, x) :: putD f v r
theorem FR.up {K : PySem.W.Frag} {G G' : Hp} {fs : List (Str × D)} {vs : List (Str × V)} (e : Same G G') (h : FR K G fs vs) : FR K G' fs vs := Paired.mapP h fun _ _ z => ⟨z.1, z.2.up e⟩
theorem FR.look {K : PySem.W.Frag} {G : Hp} {f : Str} {d : D} : ∀ {fs : List (Str × D)} {vs : List (Str × V)}, FR K G fs vs → fs.lookup f = some d → ∃ v, vs.lookup f = some v ∧ Rp K G d v
  | _, _, .nil, e => by simp at e
  | (g, x) :: r, _, .cons h t, e => by
    rename_i q _
    obtain ⟨g', y⟩ := q
    obtain ⟨h1, h2⟩ := h
    dsimp only at h1 h2
    subst h1
    simp only [List.lookup_cons] at e ⊢
    cases hb : f == g with
    | true => rw [hb] at e; cases e; exact ⟨y, rfl, h2⟩
    | false => rw [hb] at e; exact FR.look t e
theorem FR.nolook {K : PySem.W.Frag} {G : Hp} {f : Str} : ∀ {fs : List (Str × D)} {vs : List (Str × V)}, FR K G fs vs → fs.lookup f = none → vs.lookup f = none
  | _, _, .nil, e => rfl
  | (g, x) :: r, _, .cons h t, e => by
    rename_i q _
    obtain ⟨g', y⟩ := q
    obtain ⟨h1, h2⟩ := h
    dsimp only at h1 h2
    subst h1
    simp only [List.lookup_cons] at e ⊢
    cases hb : f == g with
    | true => rw [hb] at e; cases e
    | false => rw [hb] at e; exact FR.nolook t e
theorem FR.put {K : PySem.W.Frag} {G : Hp} {f : Str} {d : D} {v : V} (r : Rp K G d v) : ∀ {fs : List (Str × D)} {vs : List (Str × V)}, FR K G fs vs → FR K G (putD f d fs) (putF f v vs)
  | _, _, .nil => .cons ⟨rfl, r⟩ .nil
  | (g, x) :: r', _, .cons h t => by
    rename_i q _
    obtain ⟨g', y⟩ := q
    obtain ⟨h1, h2⟩ := h
    dsimp only at h1 h2
    subst h1
    simp only [putD, putF]
    by_cases hg : g = f
    · rw [if_pos hg, if_pos hg]; exact .cons ⟨rfl, r⟩ t
    · rw [if_neg hg, if_neg hg]; exact .cons ⟨rfl, h2⟩ (FR.put r t)
theorem FR.len {K : PySem.W.Frag} {G : Hp} {fs : List (Str × D)} {vs : List (Str × V)} (h : FR K G fs vs) : fs.length = vs.length := Paired.length h

/-- things by keys -/
abbrev DRp (K : PySem.W.Frag) (G : Hp) {κ : Type} : List (κ × D) → List (κ × V) → Prop := Paired fun (p : κ × D) (q : κ × V) => p.1 = q.1 ∧ Rp K G p.2 q.2
theorem DRp.up {K : PySem.W.Frag} {G G' : Hp} {κ : Type} {fs : List (κ × D)} {vs : List (κ × V)} (e : Same G G') (h : DRp K G fs vs) : DRp K G' fs vs := Paired.mapP h fun _ _ z => ⟨z.1, z.2.up e⟩
/-- how big a drawn cell may be -/
@[irreducible] def big : Nat := 1048576
/-- the cell c lies at a -/
def COk (K : PySem.W.Frag) (G H : Hp) (a : Addr) : Cell → Prop
  | .lst xs => ∃ vs, RpA K G xs vs ∧ H a = some (.lst vs)
  | .ins C fs => ∃ dx vs, FR K G fs vs ∧ H a = some (.ins C dx vs)
  | .deal l => ∃ n : Int, (0 ≤ n ∧ n < 2147483647) ∧ H a = some (.lst [.ref l, .int n])
  | .pool => ∃ ns : List Int, ns.length ≤ 63 ∧ (∀ n ∈ ns, 0 ≤ n ∧ n.natAbs < 2 ^ big) ∧ H a = some (.lst (ns.map V.int))
  | .tab q => ∃ us : Array Value, H a = some (.tbl us) ∧ TriplesOk us.toList ∧ ∀ (p : Pos) (u : Value), codeAmong p us.toList = some u → ∃ c, u = .ref c ∧ G c = some (LamX.CodeO c q)
  | .rng lo hi => H a = some (.rng lo hi)
  | .set S n => H a = some (.set S n)
  | .dic kvs => ∃ vs : List (Key × V), DRp K G kvs vs ∧ H a = some (.dK vs)
  | .dtp kvs => ∃ vs : List (List Key × V), DRp K G kvs vs ∧ H a = some (.dT vs)
theorem COk.up {K : PySem.W.Frag} {G G' H H' : Hp} {a : Addr} {c : Cell} (e : Same G G') (h : COk K G H a c) (k : H' a = H a) : COk K G' H' a c := (by exact HA.Wq.get : @HA.Wq (COk K G' H' a c) (by
  cases c with
  | lst xs => obtain ⟨vs, r, z⟩ := h; exact ⟨vs, r.up e, k.trans z⟩
  | ins C fs => obtain ⟨dx, vs, r, z⟩ := h; exact ⟨dx, vs, r.up e, k.trans z⟩
  | deal l => obtain ⟨n, r, z⟩ := h; exact ⟨n, r, k.trans z⟩
  | pool => obtain ⟨ns, r1, r2, z⟩ := h; exact ⟨ns, r1, r2, k.trans z⟩
  | tab q => obtain ⟨us, z, r1, r2⟩ := h; exact ⟨us, k.trans z, r1, fun p u hu => let ⟨c, e1, e2⟩ := r2 p u hu; ⟨c, e1, e _ _ e2⟩⟩
  | rng lo hi => exact k.trans h
  | set S n => exact k.trans h
  | dic kvs => obtain ⟨vs, r, z⟩ := h; exact ⟨vs, r.up e, k.trans z⟩
  | dtp kvs => obtain ⟨vs, r, z⟩ := h; exact ⟨vs, r.up e, k.trans z⟩))
theorem COk.some {K : PySem.W.Frag} {G H : Hp} {a : Addr} {c : Cell} (h : COk K G H a c) : ∃ o, H a = Option.some o := (by exact HA.Wq.get : @HA.Wq (∃ o, H a = Option.some o) (by
  cases c with
  | lst xs => obtain ⟨vs, r, z⟩ := h; exact ⟨_, z⟩
  | ins C fs => obtain ⟨dx, vs, r, z⟩ := h; exact ⟨_, z⟩
  | deal l => obtain ⟨n, r, z⟩ := h; exact ⟨_, z⟩
  | pool => obtain ⟨ns, r1, r2, z⟩ := h; exact ⟨_, z⟩
  | tab q => obtain ⟨us, z, r⟩ := h; exact ⟨_, z⟩
  | rng lo hi => exact ⟨_, h⟩
  | set S n => exact ⟨_, h⟩
  | dic kvs => obtain ⟨vs, r, z⟩ := h; exact ⟨_, z⟩
  | dtp kvs => obtain ⟨vs, r, z⟩ := h; exact ⟨_, z⟩))
/-- the memory M lies in the heap H over the frozen part G -/
structure SM (K : PySem.W.Frag) (G : Hp) (M : Mem) (H : Hp) : Prop where
  same : Same G H
  cell : ∀ a c, M a = some c → G a = none ∧ COk K G H a c
section
variable {K : PySem.W.Frag} {G H H' : Hp} {M M' : Mem} {a p : Addr} {c : Cell} {o : HO}
theorem SM.drop (s : SM K G M H) (h : MLe M' M) : SM K G M' H := ⟨s.same, fun a c e => s.cell a c (h a c e)⟩
theorem SM.free (s : SM K G M H) (h : H p = none) : G p = none ∧ M p = none := (by exact HA.Wq.get : @HA.Wq (G p = none ∧ M p = none) (by
  refine ⟨s.same.free h, ?_⟩
  cases e : M p with
  | none => rfl
  | some c => obtain ⟨o, z⟩ := (s.cell p c e).2.some; rw [h] at z; cases z))
/-- all that was tracked stays as it is -/
theorem SM.ext (s : SM K G M H) (e : Same H H') : SM K G M H' := ⟨s.same.trans e, fun a c h => by
  obtain ⟨h1, h2⟩ := s.cell a c h
  obtain ⟨o, z⟩ := h2.some
  exact ⟨h1, h2.up (Same.refl G) ((e _ _ z).trans z.symm)⟩⟩
theorem same_upd {H : Hp} {p : Addr} {o : HO} (h : H p = none) : Same H (upd H p o) := fun b u e => by
  rw [upd_ne (ne_of_none e h)]; exact e
/-- a new frozen thing -/
theorem SM.frozen (s : SM K G M H) (h : H p = none) : SM K (upd G p o) M (upd H p o) := (by exact HA.Wq.get : @HA.Wq (SM K (upd G p o) M (upd H p o)) (by
  obtain ⟨g0, m0⟩ := s.free h
  refine ⟨fun b u e => ?_, fun a c e => ?_⟩
  · by_cases hb : b = p
    · subst hb; rw [upd_same] at e ⊢; exact e
    · rw [upd_ne hb] at e ⊢; exact s.same b u e
  · have ne : a ≠ p := fun z => by subst z; rw [m0] at e; cases e
    obtain ⟨h1, h2⟩ := s.cell a c e
    exact ⟨by rw [upd_ne ne]; exact h1, h2.up (same_upd g0) (upd_ne ne)⟩))
/-- a new cell -/
theorem SM.new (s : SM K G M H) (h : H p = none) (k : COk K G (upd H p o) p c) : SM K G (mset M p c) (upd H p o) := (by exact HA.Wq.get : @HA.Wq (SM K G (mset M p c) (upd H p o)) (by
  obtain ⟨g0, m0⟩ := s.free h
  refine ⟨s.same.trans (same_upd h), fun a c' e => ?_⟩
  by_cases ha : a = p
  · subst ha; rw [mset_same] at e; cases e; exact ⟨g0, k⟩
  · rw [mset_ne ha] at e
    obtain ⟨h1, h2⟩ := s.cell a c' e
    exact ⟨h1, h2.up (Same.refl G) (upd_ne ha)⟩))
/-- a cell is written -/
theorem SM.write {c' : Cell} (s : SM K G M H) (h : M a = some c') (k : COk K G (upd H a o) a c) : SM K G (mset M a c) (upd H a o) := (by exact HA.Wq.get : @HA.Wq (SM K G (mset M a c) (upd H a o)) (by
  obtain ⟨g0, _⟩ := s.cell a c' h
  refine ⟨fun b u e => ?_, fun b d e => ?_⟩
  · rw [upd_ne (fun z => by subst z; rw [g0] at e; cases e)]; exact s.same b u e
  · by_cases hb : b = a
    · subst hb; rw [mset_same] at e; cases e; exact ⟨g0, k⟩
    · rw [mset_ne hb] at e
      obtain ⟨h1, h2⟩ := s.cell b d e
      exact ⟨h1, h2.up (Same.refl G) (upd_ne hb)⟩))
end

/-! ### slots, and the readings over trees -/
abbrev AS := List (Option D)
abbrev DK := D → Mem → Prop
/-- what is wanted of an exception: its class, its fields -/
abbrev AX := Addr → List (Str × D) → Mem → Prop
abbrev AXs := AS → AX
structure SS (K : PySem.W.Frag) (B G : Hp) (σ : AS) (M : Mem) (s : List (Option V)) (H : Hp) : Prop where
  base : Same B G
  mem : SM K G M H
  len : σ.length = s.length
  sl : ∀ (i : Nat) (d : D), σ[i]? = some (some d) → ∃ v, s[i]? = some (some v) ∧ Rp K G d v
/-- what is wanted, of a value in the layer's heap -/
def Kv (K : PySem.W.Frag) (G : Hp) (Q : DK) : VK := fun v H => ∃ d M G', Same G G' ∧ SM K G' M H ∧ Rp K G' d v ∧ Q d M
/-- .. of an exception that leaves -/
def Kx (K : PySem.W.Frag) (G : Hp) (E : AX) : XK := fun cls dx H => ∃ C fs a vs M G', cls = .ref C ∧ dx = some a ∧ Same G G' ∧ SM K G' M H ∧ H a = some (.xd vs) ∧ FR K G' fs vs ∧ E C fs M
/-- .. of an exception where the slots are known -/
def Wx (K : PySem.W.Frag) (B : Hp) (E : AXs) : WX := fun cls dx s H => ∃ C fs a vs σ M G, cls = .ref C ∧ dx = some a ∧ SS K B G σ M s H ∧ H a = some (.xd vs) ∧ FR K G fs vs ∧ E σ C fs M
theorem SS.with {K : PySem.W.Frag} {B G G' : Hp} {σ : AS} {M M' : Mem} {s : L2.St} {H H' : Hp} (x : SS K B G σ M s H) (e : Same G G') (m : SM K G' M' H') : SS K B G' σ M' s H' :=
  ⟨x.base.trans e, m, x.len, fun i d h => let ⟨v, h1, h2⟩ := x.sl i d h; ⟨v, h1, h2.up e⟩⟩
abbrev AE := AS → Mem → DK → AXs → Prop
abbrev AT := AS → Mem → (Bool → Mem → Prop) → AXs → Prop
abbrev AA := AS → Mem → (List D → Mem → Prop) → AXs → Prop
def LE (K : PySem.W.Frag) (B : Hp) (W : WX) (t : AE) : TE := fun s H R => ∃ G σ M Q E, SS K B G σ M s H ∧ t σ M Q E ∧ (∀ v H', Kv K G Q v H' → R v H') ∧ ∀ c d s' H', Wx K B E c d s' H' → W c d s' H'
def LT (K : PySem.W.Frag) (B : Hp) (W : WX) (t : AT) : TT := fun s H R => ∃ G σ M Q E, SS K B G σ M s H ∧ t σ M Q E ∧ (∀ b H' M' G', Same G G' → SM K G' M' H' → Q b M' → R b H') ∧ ∀ c d s' H', Wx K B E c d s' H' → W c d s' H'
def LA (K : PySem.W.Frag) (B : Hp) (W : WX) (t : AA) : TA := fun s H R => ∃ G σ M Q E, SS K B G σ M s H ∧ t σ M Q E ∧ (∀ vs H' ds M' G', Same G G' → SM K G' M' H' → RpA K G' ds vs → Q ds M' → R vs H') ∧ ∀ c d s' H', Wx K B E c d s' H' → W c d s' H'
abbrev QE (X : Cx) (B : Hp) (W : WX) (e : Expr) (t : AE) : Prop := PE X e (LE X.K B W t)
abbrev QT (X : Cx) (B : Hp) (W : WX) (e : Expr) (t : AT) : Prop := PT X e (LT X.K B W t)
abbrev QA (X : Cx) (B : Hp) (W : WX) (es : List Expr) (t : AA) : Prop := PA X es (LA X.K B W t)

theorem pe_imp {X : Cx} {e : Expr} {t t' : TE} (h : PE X e t) (k : ∀ σ H Q, t' σ H Q → t σ H Q) : PE X e t' := ⟨fun pins s σ H Q I q => h.run pins s σ H Q I (k σ H Q q)⟩
theorem pt_imp {X : Cx} {e : Expr} {t t' : TT} (h : PT X e t) (k : ∀ σ H Q, t' σ H Q → t σ H Q) : PT X e t' := ⟨fun pins s σ H Q I q => h.run pins s σ H Q I (k σ H Q q)⟩
theorem pw_imp {X : Cx} {e : Expr} {t t' : TT} (h : PW X e t) (k : ∀ σ H Q, t' σ H Q → t σ H Q) : PW X e t' := ⟨fun wh pins s σ H Q I q => h.run wh pins s σ H Q I (k σ H Q q)⟩
theorem pa_imp {X : Cx} {e : List Expr} {t t' : TA} (h : PA X e t) (k : ∀ σ H Q, t' σ H Q → t σ H Q) : PA X e t' := ⟨fun ps pins s σ H Q I q => h.run ps pins s σ H Q I (k σ H Q q)⟩
theorem ps_imp {X : Cx} {e : Stmt} {t t' : TS} (h : PS X e t) (k : ∀ D σ H, t' D σ H → t D σ H) : PS X e t' := ⟨fun pins s σ H D I q => h.run pins s σ H D I (k D σ H q)⟩
theorem pss_imp {X : Cx} {e : List Stmt} {t t' : TS} (h : PSs X e t) (k : ∀ D σ H, t' D σ H → t D σ H) : PSs X e t' := ⟨fun pins s σ H D I q => h.run pins s σ H D I (k D σ H q)⟩

section
variable {X : Cx} {B : Hp} {W : WX} {a b c e : Expr} {es : List Expr} {ta tb tc te : AE} {tt : AT} {tas : AA} {pos : Pos}
/-- a value that is at hand -/
theorem Kv.here {K : PySem.W.Frag} {G : Hp} {Q : DK} {d : D} {v : V} {M : Mem} {H : Hp} (m : SM K G M H) (r : Rp K G d v) (q : Q d M) : Kv K G Q v H := ⟨d, M, G, Same.refl G, m, r, q⟩
theorem Kv.lift {K : PySem.W.Frag} {G G' : Hp} {Q : DK} {v : V} {H : Hp} (e : Same G G') (h : Kv K G' Q v H) : Kv K G Q v H := let ⟨d, M, G2, e2, m, r, q⟩ := h; ⟨d, M, G2, e.trans e2, m, r, q⟩

/-! ### names, constants -/
@[simp] def onSlot (o : Option (Option D)) (k : D → Prop) : Prop := match o with
  | some (some d) => k d
  | _ => False
theorem onSlot_ok {o : Option (Option D)} {k : D → Prop} (h : onSlot o k) : ∃ d, o = some (some d) ∧ k d := by
  match o, h with
  | some (some d), h => exact ⟨d, rfl, h⟩
@[simp] def aVar (i : Nat) : AE := fun σ M Q _ => onSlot σ[i]? fun d => Q d M
@[simp] def aC (d : D) : AE := fun _ M Q _ => Q d M
theorem qe_var (i : Nat) {x : Str} {pos : Pos} (hN : X.N[i]? = some x := by rfl) (hv : Vis X.env.scope x := by first | exact Or.inl rfl | exact Or.inr (Or.inl rfl) | exact Or.inr (Or.inr rfl)) (hd : (x == ("__debug__" : Str)) = false := by decide)
    (hcd : (x == ("__classdict__" : Str)) = false := by decide) : QE X B W (.Name x pos) (aVar i) := pe_imp (pe_var hN hv hd hcd) fun s H R ⟨G, σ, M, Q, E, ss, h, k, _⟩ => by
  obtain ⟨d, e, q⟩ := onSlot_ok h
  obtain ⟨v, e2, r⟩ := ss.sl i d e
  exact ⟨v, e2, k v H (.here ss.mem r q)⟩
/-- a constant by its reading -/
theorem qe_c {v : V} {d : D} (h : PE X e (tC v)) (r : ∀ G, Rp X.K G d v) : QE X B W e (aC d) := pe_imp h fun s H R ⟨G, σ, M, Q, E, ss, q, k, _⟩ => k v H (.here ss.mem (r G) q)
theorem qe_int {i j} : QE X B W (.Constant (.int i) j pos) (aC (.int i)) := qe_c pe_int fun _ => .int i
theorem qe_bl {i j} : QE X B W (.Constant (.bool i) j pos) (aC (.bl i)) := qe_c pe_bl fun _ => .bl i
theorem qe_non {j} : QE X B W (.Constant .none j pos) (aC .non) := qe_c pe_non fun _ => .non
theorem qe_str {i j} : QE X B W (.Constant (.str i) j pos) (aC (.str i)) := qe_c pe_str fun _ => .str i
/-- a module's constant -/
theorem qe_glob {x : Str} {v : V} {u : Value} {d : D} {pos : Pos} (hg : Gl X x) (hm : X.mg x = some u) (r : RelV v u) (rp : ∀ G, Rp X.K G d v) (hd : (x == ("__debug__" : Str)) = false := by decide) : QE X B W (.Name x pos) (aC d) := qe_c (pe_glob hg hm r hd) rp
theorem qe_bltn {x : Str} {n : String} {pos : Pos} (hg : Gl X x) (hm : X.mg x = none) (hv : bootBuiltins x = some (.type n)) (hn : x ≠ "__name__" := by decide) (hd : (x == ("__debug__" : Str)) = false := by decide) : QE X B W (.Name x pos) (aC (.ty n)) := qe_c (pe_bltn (v := .ty n) hg hm hv rfl hn hd) fun _ => .ty n

/-! ### operations by values -/
abbrev A2 := D → D → Mem → DK → Prop
/-- r is right for the layer's rule rc -/
def OkR (K : PySem.W.Frag) (r : A2) (rc : R2) : Prop := ∀ G M H x y xv yv Q R, SM K G M H → Rp K G x xv → Rp K G y yv → r x y M Q → (∀ v H', Kv K G Q v H' → R v H') → rc xv yv H R
@[simp] def aOp (r : A2) (ta tb : AE) : AE := fun σ M Q E => ta σ M (fun x M1 => tb σ M1 (fun y M2 => r x y M2 Q) E) E
/-- two expressions, then something -/
theorem le_bin {K : PySem.W.Frag} {s : L2.St} {H : Hp} {R : V → V → Hp → Prop} {G : Hp} {σ : AS} {M : Mem} {E : AXs} {r : D → D → Mem → Prop} (ss : SS K B G σ M s H) (h : ta σ M (fun x M1 => tb σ M1 (fun y M2 => r x y M2) E) E) (kx : ∀ c d s' H', Wx K B E c d s' H' → W c d s' H')
    (k : ∀ G' M' H' x y xv yv, Same G G' → SM K G' M' H' → Rp K G' x xv → Rp K G' y yv → r x y M' → R xv yv H') :
    LE K B W ta s H fun v H1 => LE K B W tb s H1 fun u H2 => R v u H2 := by
  refine ⟨G, σ, M, _, E, ss, h, fun v H1 ⟨x, M1, G1, e1, m1, r1, q1⟩ => ?_, kx⟩
  refine ⟨G1, σ, M1, _, E, ss.with e1 m1, q1, fun u H2 ⟨y, M2, G2, e2, m2, r2, q2⟩ => ?_, kx⟩
  exact k G2 M2 H2 x y v u (e1.trans e2) m2 (r1.up e2) r2 q2
theorem lift_op {K : PySem.W.Frag} {r : A2} {rc : R2} (ok : OkR K r rc) {s : L2.St} {H : Hp} {R : VK} (h : LE K B W (aOp r ta tb) s H R) : tOp rc (LE K B W ta) (LE K B W tb) s H R := by
  obtain ⟨G, σ, M, Q, E, ss, h, k, kx⟩ := h
  exact le_bin ss h kx fun G' M' H' x y xv yv e m rx ry q => ok G' M' H' x y xv yv Q R m rx ry q fun v H2 kv => k v H2 (kv.lift e)
theorem qe_op {op : Operator} {r : A2} {rc : R2} (ho : OpR X (binaryOp op) rc) (ok : OkR X.K r rc) (ha : QE X B W a ta) (hb : QE X B W b tb) : QE X B W (.BinOp a op b pos) (aOp r ta tb) :=
  pe_imp (pe_op ho ha hb) fun _ _ _ h => lift_op ok h
end
end HA
/-! A2: operators, comparisons, tests over trees. -/
namespace HA
open PySem PySem.Spec L2

section
variable {K : PySem.W.Frag} {G : Hp} {x y d : D} {v : V}
theorem rp_int {i : Int} (h : Rp K G (.int i) v) : v = .int i := by cases h; rfl
theorem rp_bl {i : Bool} (h : Rp K G (.bl i) v) : v = .bl i := by cases h; rfl
theorem rp_str {i : Str} (h : Rp K G (.str i) v) : v = .str i := by cases h; rfl
theorem rp_non (h : Rp K G .non v) : v = .non := by cases h; rfl
theorem rp_ref {a : Addr} (h : Rp K G (.ref a) v) : v = .ref a := by cases h; rfl
theorem rp_tup {ds : List D} (h : Rp K G (.tup ds) v) : ∃ a vs, v = .ref a ∧ SqT K G a vs ∧ RpA K G ds vs := by cases h with | tup h k => exact ⟨_, _, rfl, h.sq, k⟩
theorem rp_tp {ds : List D} (h : Rp K G (.tup ds) v) : ∃ a vs, v = .ref a ∧ TpAt K G a vs ∧ RpA K G ds vs := by cases h with | tup h k => exact ⟨_, _, rfl, h, k⟩
end

/-! ### ints -/
@[simp] def bI (C : Int → Int → Prop) (f : Int → Int → Int) : A2 := fun x y M Q => match x, y with
  | .int i, .int j => C i j ∧ Q (.int (f i j)) M
  | _, _ => False
@[simp] def bI0 (f : Int → Int → Int) : A2 := fun x y M Q => match x, y with
  | .int i, .int j => Q (.int (f i j)) M
  | _, _ => False
theorem bI_ok {K : PySem.W.Frag} {C : Int → Int → Prop} {f : Int → Int → Int} : OkR K (bI C f) (rI C fun i j => .int (f i j)) := fun G M H x y xv yv Q R m rx ry h k => by
  match x, y, h with
  | .int i, .int j, h => exact ⟨i, j, rp_int rx, rp_int ry, h.1, k _ _ (.here m (.int _) h.2)⟩
theorem bI0_ok {K : PySem.W.Frag} {f : Int → Int → Int} : OkR K (bI0 f) (rI0 fun i j => .int (f i j)) := fun G M H x y xv yv Q R m rx ry h k => by
  match x, y, h with
  | .int i, .int j, h => exact ⟨i, j, rp_int rx, rp_int ry, k _ _ (.here m (.int _) h)⟩
/-- a product of numbers that fits -/
def MulOk (i j : Int) : Prop := IntMulOk i j
theorem op_mulO {X : Cx} : OpR X (binaryOp .Mult) (rI MulOk fun i j => .int (i * j)) := opI fun _ _ _ _ _ _ _ hc q => PyProof.Rows.mul_int q hc
theorem iop_mulO {X : Cx} : OpR X (inplaceOp .Mult) (rI MulOk fun i j => .int (i * j)) := opI fun _ _ _ _ _ _ _ hc q => PyProof.Rows.imul_int q hc
theorem MulOk.of {i j : Int} {a b : Nat} (ha : i.natAbs < 2 ^ a) (hb : j.natAbs < 2 ^ b) (h : a + b ≤ 134217728) : MulOk i j := (mulx_ok ha hb h).ok
theorem MulOk.left {i j : Int} (h1 : -18446744073709551616 < i) (h2 : i < 18446744073709551616) : MulOk i j := CMul.ok (.inl ⟨by simpa using h1, by simpa using h2⟩)
theorem MulOk.right {i j : Int} (h1 : -18446744073709551616 < j) (h2 : j < 18446744073709551616) : MulOk i j := CMul.ok (.inr ⟨by simpa using h1, by simpa using h2⟩)
def DivOk (_ j : Int) : Prop := 0 < j ∧ j.natAbs.log2 < 9000
theorem DivOk.of {i j : Int} {b : Nat} (h : 0 < j) (hb : j.natAbs < 2 ^ b) (h0 : 0 < b) (h9 : b ≤ 9000) : DivOk i j := wide_div (i := i) h hb h0 h9
theorem DivOk.small {i j : Int} (h : 0 < j) (hb : j < 18446744073709551616) : DivOk i j := by
  refine DivOk.of (b := 64) h ?_ (by decide) (by decide)
  have e : (2 : Nat) ^ 64 = 18446744073709551616 := by decide
  omega
def ModOk (_ j : Int) : Prop := 0 < j
def ShrOk (_ j : Int) : Prop := 0 ≤ j
def ShlOk (i j : Int) : Prop := CShl i j
theorem ShlOk.of {i j : Int} {n : Nat} (hj : 0 ≤ j) (h : i.natAbs < 2 ^ n) (hn : n + j.toNat ≤ 134217728) : ShlOk i j := by
  have := shl_ok (j := j.toNat) h hn
  rwa [Int.toNat_of_nonneg hj] at this

def intMul (f : Int → Int → Int) := f
section
variable {X : Cx} {B : Hp} {W : WX} {a b c e : Expr} {es : List Expr} {ta tb tc te : AE} {pos : Pos}
abbrev aSub (ta tb : AE) : AE := aOp (bI0 fun i j => i - j) ta tb
theorem qe_sub (ha : QE X B W a ta) (hb : QE X B W b tb) : QE X B W (.BinOp a .Sub b pos) (aOp (bI0 fun i j => i - j) ta tb) := qe_op op_sub bI0_ok ha hb
theorem qe_mod (ha : QE X B W a ta) (hb : QE X B W b tb) : QE X B W (.BinOp a .Mod b pos) (aOp (bI ModOk fun i j => i % j) ta tb) := qe_op op_mod bI_ok ha hb
theorem qe_fdiv (ha : QE X B W a ta) (hb : QE X B W b tb) : QE X B W (.BinOp a .FloorDiv b pos) (aOp (bI DivOk fun i j => i / j) ta tb) := qe_op op_fdivW bI_ok ha hb
theorem qe_pow (ha : QE X B W a ta) (hb : QE X B W b tb) : QE X B W (.BinOp a .Pow b pos) (aOp (bI CPow fun i j => i ^ j.toNat) ta tb) := qe_op op_pow bI_ok ha hb
theorem qe_shl (ha : QE X B W a ta) (hb : QE X B W b tb) : QE X B W (.BinOp a .LShift b pos) (aOp (bI ShlOk fun i j => i * 2 ^ j.toNat) ta tb) := qe_op op_shlW bI_ok ha hb
theorem qe_shr (ha : QE X B W a ta) (hb : QE X B W b tb) : QE X B W (.BinOp a .RShift b pos) (aOp (bI ShrOk fun i j => i / 2 ^ j.toNat) ta tb) := qe_op op_shr bI_ok ha hb
theorem qe_and (ha : QE X B W a ta) (hb : QE X B W b tb) : QE X B W (.BinOp a .BitAnd b pos) (aOp (bI0 Builtin.bitAnd) ta tb) := qe_op op_and bI0_ok ha hb
theorem qe_or (ha : QE X B W a ta) (hb : QE X B W b tb) : QE X B W (.BinOp a .BitOr b pos) (aOp (bI0 Builtin.bitOr) ta tb) := qe_op op_or bI0_ok ha hb
theorem qe_xor (ha : QE X B W a ta) (hb : QE X B W b tb) : QE X B W (.BinOp a .BitXor b pos) (aOp (bI0 Builtin.bitXor) ta tb) := qe_op op_xor bI0_ok ha hb
end

/-! ### + -/
/-- a changeable or frozen list of the call's own -/
@[simp] def LstAt (M : Mem) (x : D) (xs : List D) : Prop := match x with
  | .lst ys => xs = ys
  | .ref a => M a = some (.lst xs)
  | _ => False
/-- any list to be read -/
@[simp] def LsAt (M : Mem) (x : D) (xs : List D) : Prop := match x with
  | .lst ys => xs = ys
  | .frz ys => xs = ys
  | .ref a => M a = some (.lst xs)
  | _ => False
section
variable {K : PySem.W.Frag} {G H : Hp} {M : Mem} {x : D} {xs : List D} {v : V}
theorem lstAt {P : Prop} (m : SM K G M H) (r : Rp K G x v) (h : LstAt M x xs) (k : ∀ a vs, v = .ref a → H a = some (.lst vs) → RpA K G xs vs → P) : P := (by exact HA.Wq.get : @HA.Wq (P) (by
  match x, h with
  | .lst ys, h =>
    cases h
    cases r with | lst g t => exact k _ _ rfl (m.same _ _ g) t
  | .ref a, h =>
    cases r
    obtain ⟨_, vs, t, e⟩ := m.cell a _ h
    exact k a vs rfl e t))
theorem lsAt {P : Prop} (m : SM K G M H) (r : Rp K G x v) (h : LsAt M x xs) (k : ∀ a vs, v = .ref a → SqL K H a vs → RpA K G xs vs → P) : P := (by exact HA.Wq.get : @HA.Wq (P) (by
  match x, h with
  | .lst ys, h =>
    cases h
    cases r with | lst g t => exact k _ _ rfl (.of (m.same _ _ g)) t
  | .frz ys, h =>
    cases h
    cases r with | frz g t => exact k _ _ rfl (m.same.seq g) t
  | .ref a, h =>
    cases r
    obtain ⟨_, vs, t, e⟩ := m.cell a _ h
    exact k a vs rfl (.of e) t))
/-- a new list, a cell -/
theorem Kv.lst {Q : DK} {R : VK} {p : Addr} {xs : List D} {vs : List V} (m : SM K G M H) (k : ∀ v H', Kv K G Q v H' → R v H') (r : RpA K G xs vs) (hp : H p = none) (q : ∀ p, M p = none → Q (.ref p) (mset M p (.lst xs))) : R (.ref p) (upd H p (.lst vs)) :=
  k _ _ ⟨.ref p, mset M p (.lst xs), G, Same.refl G, m.new hp ⟨vs, r, upd_same⟩, .ref p, q p (m.free hp).2⟩
/-- a new tuple, frozen -/
theorem Kv.tup {Q : DK} {R : VK} {p : Addr} {xs : List D} {vs : List V} (m : SM K G M H) (k : ∀ v H', Kv K G Q v H' → R v H') (r : RpA K G xs vs) (hp : H p = none) (q : Q (.tup xs) M) : R (.ref p) (upd H p (.tup vs)) := by
  have g0 := (m.free hp).1
  exact k _ _ ⟨.tup xs, M, _, same_upd g0, m.frozen hp, .tup (.inl upd_same) (r.up (same_upd g0)), q⟩
end
@[simp] def bAdd : A2 := fun x y M Q => match x, y with
  | .int i, .int j => Q (.int (i + j)) M
  | .str i, .str j => i.length + j.length ≤ sizeLine ∧ Q (.str (i ++ j)) M
  | .tup xs, .tup ys => xs.length + ys.length ≤ sizeLine ∧ Q (.tup (xs ++ ys)) M
  | x, y => ∃ xs ys, LstAt M x xs ∧ LstAt M y ys ∧ xs.length + ys.length ≤ sizeLine ∧ ∀ p, M p = none → Q (.ref p) (mset M p (.lst (xs ++ ys)))
def rAddA (K : PySem.W.Frag) : R2 := fun x y H Q => ((rI0 fun i j => .int (i + j)) x y H Q ∨ (fun x y H Q => ∃ i j, x = .str i ∧ y = .str j ∧ i.length + j.length ≤ sizeLine ∧ Q (.str (i ++ j)) H : R2) x y H Q) ∨ rCatA K x y H Q ∨ rCat x y H Q
theorem op_addA {X : Cx} : OpR X (binaryOp .Add) (rAddA X.K) := (op_add.or op_add_str).or (op_catA.or op_cat)
theorem bAdd_ok {K : PySem.W.Frag} : OkR K bAdd (rAddA K) := fun G M H x y xv yv Q R m rx ry h k => by
  have lists : (∃ xs ys, LstAt M x xs ∧ LstAt M y ys ∧ xs.length + ys.length ≤ sizeLine ∧ ∀ p, M p = none → Q (.ref p) (mset M p (.lst (xs ++ ys)))) → rAddA K xv yv H R := by
    rintro ⟨xs, ys, h1, h2, hz, q⟩
    refine lstAt m rx h1 fun a vs e1 p1 r1 => lstAt m ry h2 fun b ws e2 p2 r2 => ?_
    exact .inr (.inr ⟨a, b, vs, ws, e1, e2, p1, p2, by rw [← r1.len, ← r2.len]; exact hz, fun p hp => Kv.lst m k (r1.app r2) hp q⟩)
  unfold bAdd at h
  split at h
  · cases rx; cases ry
    exact .inl (.inl ⟨_, _, rfl, rfl, k _ _ (.here m (.int _) h)⟩)
  · cases rx; cases ry
    exact .inl (.inr ⟨_, _, rfl, rfl, h.1, k _ _ (.here m (.str _) h.2)⟩)
  · rename_i xs ys
    obtain ⟨a, vs, rfl, p1, r1⟩ := rp_tup rx
    obtain ⟨b, ws, rfl, p2, r2⟩ := rp_tup ry
    obtain ⟨hz, q⟩ := h
    refine .inr (.inl ⟨a, b, vs, ws, rfl, rfl, same_sqt m.same p1, same_sqt m.same p2, by rw [← r1.len, ← r2.len]; exact hz, fun e => ?_, fun _ e => ?_, fun _ _ p hp => Kv.tup m k (r1.app r2) hp q⟩)
    · subst e; cases r1; exact k _ _ (.here m ry q)
    · subst e; cases r2; exact k _ _ (.here m rx (by simpa using q))
  · exact lists h
section
variable {X : Cx} {B : Hp} {W : WX} {a b c e : Expr} {es : List Expr} {ta tb tc te : AE} {pos : Pos}
theorem qe_add (ha : QE X B W a ta) (hb : QE X B W b tb) : QE X B W (.BinOp a .Add b pos) (aOp bAdd ta tb) := qe_op op_addA bAdd_ok ha hb
end

/-! ### comparisons -/
@[simp] def bC (f : Int → Int → Bool) : A2 := fun x y M Q => match x, y with
  | .int i, .int j => Q (.bl (f i j)) M
  | _, _ => False
theorem bC_ok {K : PySem.W.Frag} {f : Int → Int → Bool} : OkR K (bC f) (rI0 fun i j => .bl (f i j)) := fun G M H x y xv yv Q R m rx ry h k => by
  match x, y, h with
  | .int i, .int j, h => exact ⟨i, j, rp_int rx, rp_int ry, k _ _ (.here m (.bl _) h)⟩

mutual
/-- d is the data p, as the memory stands -/
inductive DR (M : Mem) : D → PyData → Prop
  | non : DR M .non .none
  | bl (b : Bool) : DR M (.bl b) (.bool b)
  | int (i : Int) : DR M (.int i) (.int i)
  | str (x : Str) : DR M (.str x) (.str x)
  | tup {xs : List D} {ps : List PyData} : DRA M xs ps → DR M (.tup xs) (.tuple ps)
  | lst {x : D} {xs : List D} {ps : List PyData} : LsAt M x xs → DRA M xs ps → DR M x (.list ps)
inductive DRA (M : Mem) : List D → List PyData → Prop
  | nil : DRA M [] []
  | cons {x : D} {p : PyData} {xs : List D} {ps : List PyData} : DR M x p → DRA M xs ps → DRA M (x :: xs) (p :: ps)
end
mutual
theorem DR.dp {K : PySem.W.Frag} {G H : Hp} {M : Mem} (m : SM K G M H) : ∀ {d : D} {p : PyData} {v : V}, DR M d p → Rp K G d v → Dp K H v p
  | _, _, _, .non, r => by cases r; exact .non
  | _, _, _, .bl b, r => by cases r; exact .bl b
  | _, _, _, .int b, r => by cases r; exact .int b
  | _, _, _, .str b, r => by cases r; exact .str b
  | _, _, _, .tup h, r => by
    obtain ⟨a, vs, rfl, p1, r1⟩ := rp_tup r
    exact .tup (same_sqt m.same p1) (DRA.dp m h r1)
  | _, _, _, .lst h t, r => lsAt m r h fun a vs e p r1 => by subst e; exact .lst p (DRA.dp m t r1)
theorem DRA.dp {K : PySem.W.Frag} {G H : Hp} {M : Mem} (m : SM K G M H) : ∀ {d : List D} {p : List PyData} {v : List V}, DRA M d p → RpA K G d v → DpAll K H v p
  | _, _, _, .nil, r => by cases r; exact .nil
  | _, _, _, .cons h t, r => by
    cases r with | cons r1 r2 => exact .cons (DR.dp m h r1) (DRA.dp m t r2)
end
theorem DRA.ints {M : Mem} : ∀ ns : List Int, DRA M (ns.map D.int) (ns.map PyData.int)
  | [] => .nil
  | n :: r => .cons (.int n) (DRA.ints r)
theorem DRA.app {M : Mem} : ∀ {xs ys : List D} {ps qs : List PyData}, DRA M xs ps → DRA M ys qs → DRA M (xs ++ ys) (ps ++ qs)
  | _, _, _, _, .nil, h => h
  | _, _, _, _, .cons a b, h => .cons a (DRA.app b h)

/-- ==: scalars at once, else by the data -/
def bEq (neg : Bool) : A2 := fun x y M Q => match x, y with
  | .int i, .int j => Q (.bl (neg ^^ decide (i = j))) M
  | .str i, .str j => Q (.bl (neg ^^ decide (i = j))) M
  | .bl i, .bl j => Q (.bl (neg ^^ decide (i = j))) M
  | .non, .non => Q (.bl (neg ^^ true)) M
  | x, y => ∃ d e, DR M x d ∧ DR M y e ∧ SeqAt.shaped d = true ∧ SeqAt.shaped e = true ∧ Q (.bl (neg ^^ PyData.eqv d e)) M
theorem vI {i j : Int} : decide (V.int i = V.int j) = decide (i = j) := by simp
theorem vS {i j : Str} : decide (V.str i = V.str j) = decide (i = j) := by simp
theorem vB {i j : Bool} : decide (V.bl i = V.bl j) = decide (i = j) := by simp
theorem xor_f (b : Bool) : (false ^^ b) = b := by cases b <;> rfl
theorem xor_t (b : Bool) : (true ^^ b) = !b := by cases b <;> rfl
theorem bEq_ok {K : PySem.W.Frag} : OkR K (bEq false) (fun x y H Q => rEq x y H Q ∨ rEqD K x y H Q) := fun G M H x y xv yv Q R m rx ry h k => by
  unfold bEq at h
  simp only [xor_f] at h
  split at h
  · cases rx; cases ry
    exact .inl ⟨rfl, k _ _ (.here m (by rw [vI]; exact .bl _) h)⟩
  · cases rx; cases ry
    exact .inl ⟨rfl, k _ _ (.here m (by rw [vS]; exact .bl _) h)⟩
  · cases rx; cases ry
    exact .inl ⟨rfl, k _ _ (.here m (by rw [vB]; exact .bl _) h)⟩
  · cases rx; cases ry
    exact .inl ⟨rfl, k _ _ (.here m (.bl _) (by simpa using h))⟩
  · obtain ⟨d, e, h1, h2, s1, s2, q⟩ := h
    exact .inr ⟨d, e, h1.dp m rx, h2.dp m ry, s1, s2, k _ _ (.here m (.bl _) q)⟩
theorem bNe_ok {K : PySem.W.Frag} : OkR K (bEq true) (fun x y H Q => rNe x y H Q ∨ rNeD K x y H Q) := fun G M H x y xv yv Q R m rx ry h k => by
  unfold bEq at h
  simp only [xor_t] at h
  split at h
  · cases rx; cases ry
    exact .inl ⟨rfl, k _ _ (.here m (by rw [vI]; exact .bl _) h)⟩
  · cases rx; cases ry
    exact .inl ⟨rfl, k _ _ (.here m (by rw [vS]; exact .bl _) h)⟩
  · cases rx; cases ry
    exact .inl ⟨rfl, k _ _ (.here m (by rw [vB]; exact .bl _) h)⟩
  · cases rx; cases ry
    exact .inl ⟨rfl, k _ _ (.here m (.bl _) (by simpa using h))⟩
  · obtain ⟨d, e, h1, h2, s1, s2, q⟩ := h
    exact .inr ⟨d, e, h1.dp m rx, h2.dp m ry, s1, s2, k _ _ (.here m (.bl _) q)⟩

/-- the operator's reading over trees -/
def CmpOk (X : Cx) (op : CmpOp) (r : A2) : Prop := ∃ rc, OpR X (compareOp op) rc ∧ OkR X.K r rc
section
variable {X : Cx}
theorem c_lt : CmpOk X .Lt (bC fun i j => decide (i < j)) := ⟨_, op_lt, bC_ok⟩
theorem c_le : CmpOk X .LtE (bC fun i j => decide (i ≤ j)) := ⟨_, op_le, bC_ok⟩
theorem c_gt : CmpOk X .Gt (bC fun i j => decide (j < i)) := ⟨_, op_gt, bC_ok⟩
theorem c_ge : CmpOk X .GtE (bC fun i j => decide (j ≤ i)) := ⟨_, op_ge, bC_ok⟩
theorem c_eq (hu : X.A.units + 64 < cLine) : CmpOk X .Eq (bEq false) := ⟨_, op_eq.or (op_eqD hu), bEq_ok⟩
theorem c_ne (hu : X.A.units + 64 < cLine) : CmpOk X .NotEq (bEq true) := ⟨_, op_ne.or (op_neD hu), bNe_ok⟩
/-- is None -/
@[simp] def isNon : D → Bool
  | .non => true
  | _ => false
@[simp] def bIsN (neg : Bool) : A2 := fun x y M Q => match y with
  | .non => Q (.bl (neg ^^ isNon x)) M
  | _ => False
theorem isNon_eq {K : PySem.W.Frag} {G : Hp} {x : D} {v : V} (r : Rp K G x v) : decide (v = V.non) = isNon x := by
  cases r <;> first | rfl | simp [isNon]
theorem c_is : CmpOk X .Is (bIsN false) := ⟨_, op_isN, fun G M H x y xv yv Q R m rx ry h k => by
  match y, h with
  | .non, h => exact ⟨rp_non ry, k _ _ (.here m (by rw [isNon_eq rx]; exact .bl _) (by simpa [bIsN] using h))⟩⟩
theorem c_isnot : CmpOk X .IsNot (bIsN true) := ⟨_, op_notN, fun G M H x y xv yv Q R m rx ry h k => by
  match y, h with
  | .non, h => exact ⟨rp_non ry, k _ _ (.here m (by rw [isNon_eq rx]; exact .bl _) (by simpa [bIsN] using h))⟩⟩
end

section
variable {X : Cx} {B : Hp} {W : WX} {a b c e : Expr} {es : List Expr} {ta tb tc te : AE} {tt tu : AT} {pos : Pos}
theorem qe_cmp {op : CmpOp} {r : A2} (o : CmpOk X op r) (ha : QE X B W a ta) (hb : QE X B W b tb) (hm : behindInMarks op b = false := by first | exact nomark _ | rfl) : QE X B W (.Compare a [op] [b] pos) (aOp r ta tb) := by
  obtain ⟨rc, ho, ok⟩ := o
  exact pe_imp (pe_cmpR ho ha hb hm) fun _ _ _ h => lift_op ok h
/-- a test's answer is True or False -/
@[simp] def onBl (x : D) (k : Bool → Prop) : Prop := match x with
  | .bl b => k b
  | _ => False
@[simp] def aTest (t : AE) : AT := fun σ M Q E => t σ M (fun x M' => onBl x fun k => Q k M') E
theorem qt_cmp {op : CmpOp} {r : A2} (o : CmpOk X op r) (ha : QE X B W a ta) (hb : QE X B W b tb) (hm : behindInMarks op b = false := by first | exact nomark _ | rfl) : QT X B W (.Compare a [op] [b] pos) (aTest (aOp r ta tb)) := by
  obtain ⟨rc, ho, ok⟩ := o
  refine pt_imp (pt_cmpR ho ha hb hm) fun s H R ⟨G, σ, M, Q, E, ss, h, k, kx⟩ => ?_
  exact lift_op ok ⟨G, σ, M, _, E, ss, h, fun v H' ⟨d, M', G', e, m, r, q⟩ => by
    match d, q with
    | .bl b, q => exact ⟨b, rp_bl r, k b H' M' G' e m q⟩, kx⟩
/-- a op b op' c -/
@[simp] def aChain (r r' : A2) (ta tb tc : AE) : AE := fun σ M Q E => ta σ M (fun x M1 => tb σ M1 (fun y M2 => r x y M2 fun z M3 => onBl z fun k => (k = true → tc σ M3 (fun w M4 => r' y w M4 Q) E) ∧ (k = false → Q (.bl false) M3)) E) E
theorem lift_chain {K : PySem.W.Frag} {r r' : A2} {rc rc' : R2} (ok : OkR K r rc) (ok' : OkR K r' rc') {s : L2.St} {H : Hp} {R : VK} (h : LE K B W (aChain r r' ta tb tc) s H R) : tChain rc rc' (LE K B W ta) (LE K B W tb) (LE K B W tc) s H R := (by exact HA.Wq.get : @HA.Wq (tChain rc rc' (LE K B W ta) (LE K B W tb) (LE K B W tc) s H R) (by
  obtain ⟨G, σ, M, Q, E, ss, h, k, kx⟩ := h
  have h : ta σ M (fun x M1 => tb σ M1 (fun y M2 => r x y M2 fun z M3 => onBl z fun k => (k = true → tc σ M3 (fun w M4 => r' y w M4 Q) E) ∧ (k = false → Q (.bl false) M3)) E) E := h
  refine le_bin (r := fun x y M2 => r x y M2 fun z M3 => onBl z fun k => (k = true → tc σ M3 (fun w M4 => r' y w M4 Q) E) ∧ (k = false → Q (.bl false) M3)) ss h kx fun G1 M1 H1 x y xv yv e m rx ry q => ?_
  refine ok G1 M1 H1 x y xv yv _ _ m rx ry q fun v H2 ⟨d, M2, G2, e2, m2, r2, q2⟩ => ?_
  match d, q2 with
  | .bl b, q2 =>
    refine ⟨b, rp_bl r2, ?_⟩
    cases b with
    | true =>
      refine iteT ⟨G2, σ, M2, _, E, (ss.with e m).with e2 m2, q2.1 rfl, fun w H3 ⟨z, M3, G3, e3, m3, r3, q3⟩ => ?_, kx⟩
      exact ok' G3 M3 H3 y z yv w Q R m3 (ry.up (e2.trans e3)) r3 q3 fun v H4 kv => k v H4 (kv.lift (e.trans (e2.trans e3)))
    | false => exact iteF (k _ _ ((Kv.here m2 (.bl false) (q2.2 rfl)).lift (e.trans e2)))))
theorem qe_chain {op op' : CmpOp} {r r' : A2} (o : CmpOk X op r) (o' : CmpOk X op' r') (ha : QE X B W a ta) (hb : QE X B W b tb) (hc : QE X B W c tc) (hm : lastMarks [op, op'] [b, c] = false := by with_unfolding_all rfl) : QE X B W (.Compare a [op, op'] [b, c] pos) (aChain r r' ta tb tc) := by
  obtain ⟨rc, ho, ok⟩ := o
  obtain ⟨rc', ho', ok'⟩ := o'
  exact pe_imp (pe_chain ho ho' ha hb hc hm) fun _ _ _ h => lift_chain ok ok' h
theorem qt_chain {op op' : CmpOp} {r r' : A2} (o : CmpOk X op r) (o' : CmpOk X op' r') (ha : QE X B W a ta) (hb : QE X B W b tb) (hc : QE X B W c tc) (hm : lastMarks [op, op'] [b, c] = false := by with_unfolding_all rfl) : QT X B W (.Compare a [op, op'] [b, c] pos) (aTest (aChain r r' ta tb tc)) := by
  obtain ⟨rc, ho, ok⟩ := o
  obtain ⟨rc', ho', ok'⟩ := o'
  refine pt_imp (pt_chain ho ho' ha hb hc hm) fun s H R ⟨G, σ, M, Q, E, ss, h, k, kx⟩ => ?_
  exact lift_chain ok ok' ⟨G, σ, M, _, E, ss, h, fun v H' ⟨d, M', G', e, m, r, q⟩ => by
    match d, q with
    | .bl b, q => exact ⟨b, rp_bl r, k b H' M' G' e m q⟩, kx⟩

/-! ### truth -/
/-- a value's truth -/
@[simp] def tru (x : D) (M : Mem) (k : Bool → Prop) : Prop := match x with
  | .non => k false
  | .bl b => k b
  | .int i => k (i != 0)
  | .str y => y.length ≤ sizeLine ∧ k ((y.length : Int) != 0)
  | .tup xs => k (!xs.isEmpty)
  | x => ∃ xs, LsAt M x xs ∧ k (!xs.isEmpty)
theorem empty_eq {K : PySem.W.Frag} {G : Hp} {xs : List D} {vs : List V} (r : RpA K G xs vs) : xs.isEmpty = vs.isEmpty := by cases r <;> rfl
theorem tru_to {K : PySem.W.Frag} {G H : Hp} {M : Mem} {x : D} {v : V} {P : Bool → Prop} (m : SM K G M H) (r : Rp K G x v) (h : tru x M P) : ∃ k, TruV K v H k ∧ P k := (by exact HA.Wq.get : @HA.Wq (∃ k, TruV K v H k ∧ P k) (by
  unfold tru at h
  split at h
  · cases r; exact ⟨false, rfl, h⟩
  · cases r; exact ⟨_, rfl, h⟩
  · cases r; exact ⟨_, rfl, h⟩
  · cases r; exact ⟨_, ⟨h.1, rfl⟩, h.2⟩
  · obtain ⟨a, vs, rfl, p, t⟩ := rp_tup r
    exact ⟨_, .inr (.inl ⟨vs, same_sqt m.same p, rfl⟩), by rw [← empty_eq t]; exact h⟩
  · obtain ⟨xs, h1, h2⟩ := h
    refine lsAt m r h1 fun a vs e p t => ?_
    subst e
    exact ⟨_, .inl ⟨vs, p, rfl⟩, by rw [← empty_eq t]; exact h2⟩))
@[simp] def aTruth (t : AE) : AT := fun σ M Q E => t σ M (fun x M' => tru x M' fun k => Q k M') E
theorem qt_truth (ha : QE X B W a ta) (he : ∀ whole, isTrue a X.env whole = (do let v ← whole; standAt a.pos; holding [v] (truthy v)) := by intro _; rfl) : QT X B W a (aTruth ta) :=
  pt_imp (pt_truth ha he) fun s H R ⟨G, σ, M, Q, E, ss, h, k, kx⟩ => ⟨G, σ, M, _, E, ss, h, fun v H' ⟨d, M', G', e, m, r, q⟩ =>
    let ⟨b, h1, h2⟩ := tru_to m r q; ⟨b, h1, k b H' M' G' e m h2⟩, kx⟩
/-- of a test's kind: not, and, or -/
@[simp] def aNotT (t : AT) : AT := fun σ M Q E => t σ M (fun b M' => Q (!b) M') E
theorem qt_not (ht : QT X B W a tt) : QT X B W (.UnaryOp .Not a pos) (aNotT tt) :=
  pt_imp (pt_not ht) fun s H R ⟨G, σ, M, Q, E, ss, h, k, kx⟩ => ⟨G, σ, M, _, E, ss, h, fun b H' M' G' e m q => k (!b) H' M' G' e m q, kx⟩
end
end HA
/-! A3: and, or, if-else, displays, items, slices, fields, built-in calls and methods, over trees. -/
namespace HA
open PySem PySem.Spec L2

section
variable {X : Cx} {B : Hp} {W : WX} {a b c e o i : Expr} {es rest : List Expr} {ta tb tc te : AE} {tt tu : AT} {tas : AA} {pos : Pos}
/-! ### and, or -/
@[simp] def aAndT (t u : AT) : AT := fun σ M Q E => t σ M (fun b M1 => (b = true → u σ M1 Q E) ∧ (b = false → Q false M1)) E
@[simp] def aOrT (t u : AT) : AT := fun σ M Q E => t σ M (fun b M1 => (b = true → Q true M1) ∧ (b = false → u σ M1 Q E)) E
abbrev QW (X : Cx) (B : Hp) (W : WX) (e : Expr) (t : AT) : Prop := PW X e (LT X.K B W t)
theorem qw_and1 (ha : QT X B W a tt) : QW X B W (.BoolOp .And [a] pos) tt := pw_and1 ha
theorem qw_or1 (ha : QT X B W a tt) : QW X B W (.BoolOp .Or [a] pos) tt := pw_or1 ha
theorem qw_and (ha : QT X B W a tt) (hb : QW X B W (.BoolOp .And (b :: rest) pos) tu) : QW X B W (.BoolOp .And (a :: b :: rest) pos) (aAndT tt tu) :=
  pw_imp (pw_and ha hb) fun s H R ⟨G, σ, M, Q, E, ss, h, k, kx⟩ => ⟨G, σ, M, _, E, ss, h, fun b H1 M1 G1 e m q => by
    cases b with
    | true => exact iteT ⟨G1, σ, M1, Q, E, ss.with e m, q.1 rfl, fun b H2 M2 G2 e2 m2 q2 => k b H2 M2 G2 (e.trans e2) m2 q2, kx⟩
    | false => exact iteF (k false H1 M1 G1 e m (q.2 rfl)), kx⟩
theorem qw_or (ha : QT X B W a tt) (hb : QW X B W (.BoolOp .Or (b :: rest) pos) tu) : QW X B W (.BoolOp .Or (a :: b :: rest) pos) (aOrT tt tu) :=
  pw_imp (pw_or ha hb) fun s H R ⟨G, σ, M, Q, E, ss, h, k, kx⟩ => ⟨G, σ, M, _, E, ss, h, fun b H1 M1 G1 e m q => by
    cases b with
    | false => exact iteF ⟨G1, σ, M1, Q, E, ss.with e m, q.2 rfl, fun b H2 M2 G2 e2 m2 q2 => k b H2 M2 G2 (e.trans e2) m2 q2, kx⟩
    | true => exact iteT (k true H1 M1 G1 e m (q.1 rfl)), kx⟩
theorem qt_w (h : QW X B W e tt) : QT X B W e tt := h.pt
/-- as values -/
@[simp] def aAndV (ta tb : AE) : AE := fun σ M Q E => ta σ M (fun x M1 => tru x M1 fun k => (k = true → tb σ M1 Q E) ∧ (k = false → Q x M1)) E
@[simp] def aOrV (ta tb : AE) : AE := fun σ M Q E => ta σ M (fun x M1 => tru x M1 fun k => (k = true → Q x M1) ∧ (k = false → tb σ M1 Q E)) E
@[simp] def aNotV (ta : AE) : AE := fun σ M Q E => ta σ M (fun x M1 => tru x M1 fun k => Q (.bl (!k)) M1) E
theorem qe_one {op} (h : QE X B W a ta) : QE X B W (.BoolOp op [a] pos) ta := pe_one h
end
end HA
namespace HA
open PySem PySem.Spec L2
section
variable {X : Cx} {B : Hp} {W : WX} {a b c e o i : Expr} {es rest : List Expr} {ta tb tc te : AE} {tt tu : AT} {tas : AA} {pos : Pos}
theorem qe_andV (ha : QE X B W a ta) (hb : QE X B W (.BoolOp .And (b :: rest) pos) tb) : QE X B W (.BoolOp .And (a :: b :: rest) pos) (aAndV ta tb) :=
  pe_imp (pe_andT ha hb) fun s H R ⟨G, σ, M, Q, E, ss, h, k, kx⟩ => ⟨G, σ, M, _, E, ss, h, fun v H1 ⟨x, M1, G1, e, m, r, q⟩ => by
    obtain ⟨b, h1, h2⟩ := tru_to m r q
    refine ⟨b, h1, ?_⟩
    cases b with
    | true => exact iteT ⟨G1, σ, M1, Q, E, ss.with e m, h2.1 rfl, fun v H2 kv => k v H2 (kv.lift e), kx⟩
    | false => exact iteF (k v H1 ((Kv.here m r (h2.2 rfl)).lift e)), kx⟩
theorem qe_orV (ha : QE X B W a ta) (hb : QE X B W (.BoolOp .Or (b :: rest) pos) tb) : QE X B W (.BoolOp .Or (a :: b :: rest) pos) (aOrV ta tb) :=
  pe_imp (pe_orT ha hb) fun s H R ⟨G, σ, M, Q, E, ss, h, k, kx⟩ => ⟨G, σ, M, _, E, ss, h, fun v H1 ⟨x, M1, G1, e, m, r, q⟩ => by
    obtain ⟨b, h1, h2⟩ := tru_to m r q
    refine ⟨b, h1, ?_⟩
    cases b with
    | false => exact iteF ⟨G1, σ, M1, Q, E, ss.with e m, h2.2 rfl, fun v H2 kv => k v H2 (kv.lift e), kx⟩
    | true => exact iteT (k v H1 ((Kv.here m r (h2.1 rfl)).lift e)), kx⟩
theorem qe_notV (ha : QE X B W a ta) : QE X B W (.UnaryOp .Not a pos) (aNotV ta) :=
  pe_imp (pe_notT ha) fun s H R ⟨G, σ, M, Q, E, ss, h, k, kx⟩ => ⟨G, σ, M, _, E, ss, h, fun v H1 ⟨x, M1, G1, e, m, r, q⟩ => by
    obtain ⟨b, h1, h2⟩ := tru_to m r q
    exact ⟨b, h1, k _ _ ((Kv.here m (.bl _) h2).lift e)⟩, kx⟩
@[simp] def aIfE (t : AT) (ta tb : AE) : AE := fun σ M Q E => t σ M (fun b M1 => (b = true → ta σ M1 Q E) ∧ (b = false → tb σ M1 Q E)) E
theorem qe_ifExp (hc : QT X B W c tt) (ha : QE X B W a ta) (hb : QE X B W b tb) : QE X B W (.IfExp c a b pos) (aIfE tt ta tb) :=
  pe_imp (pe_ifExp hc ha hb) fun s H R ⟨G, σ, M, Q, E, ss, h, k, kx⟩ => ⟨G, σ, M, _, E, ss, h, fun b H1 M1 G1 e m q => by
    cases b with
    | true => exact iteT ⟨G1, σ, M1, Q, E, ss.with e m, q.1 rfl, fun v H2 kv => k v H2 (kv.lift e), kx⟩
    | false => exact iteF ⟨G1, σ, M1, Q, E, ss.with e m, q.2 rfl, fun v H2 kv => k v H2 (kv.lift e), kx⟩, kx⟩
/-! ### unary -/
@[simp] def aNeg (ta : AE) : AE := fun σ M Q E => ta σ M (fun x M1 => match x with
  | .int i => Q (.int (-i)) M1
  | _ => False) E
theorem qe_neg (ha : QE X B W a ta) : QE X B W (.UnaryOp .USub a pos) (aNeg ta) :=
  pe_imp (pe_un un_neg ha) fun s H R ⟨G, σ, M, Q, E, ss, h, k, kx⟩ => ⟨G, σ, M, _, E, ss, h, fun v H1 ⟨x, M1, G1, e, m, r, q⟩ => by
    match x, q with
    | .int i, q => exact ⟨i, rp_int r, k _ _ ((Kv.here m (.int _) q).lift e)⟩, kx⟩
/-! ### argument lists, displays -/
@[simp] def aNil : AA := fun _ M Q _ => Q [] M
@[simp] def aCons (ta : AE) (tr : AA) : AA := fun σ M Q E => ta σ M (fun x M1 => tr σ M1 (fun xs M2 => Q (x :: xs) M2) E) E
theorem qa_nil : QA X B W [] aNil := pa_imp pa_nil fun s H R ⟨G, σ, M, Q, E, ss, h, k, kx⟩ => k [] H [] M G (Same.refl G) ss.mem .nil h
theorem qa_cons (ha : QE X B W e te) (hr : QA X B W es tas) (hs : starEach (e :: es) X.env = (false, eval e X.env) :: starEach es X.env := by rfl) : QA X B W (e :: es) (aCons te tas) :=
  pa_imp (pa_cons ha hr hs) fun s H R ⟨G, σ, M, Q, E, ss, h, k, kx⟩ => ⟨G, σ, M, _, E, ss, h, fun v H1 ⟨x, M1, G1, e, m, r, q⟩ =>
    ⟨G1, σ, M1, _, E, ss.with e m, q, fun vs H2 ds M2 G2 e2 m2 r2 q2 => k (v :: vs) H2 (x :: ds) M2 G2 (e.trans e2) m2 (.cons (r.up e2) r2) q2, kx⟩, kx⟩
@[simp] def aTup (t : AA) : AE := fun σ M Q E => t σ M (fun xs M1 => xs.length ≤ sizeLine ∧ Q (.tup xs) M1) E
@[simp] def aLst (t : AA) : AE := fun σ M Q E => t σ M (fun xs M1 => xs.length ≤ sizeLine ∧ ∀ p, M1 p = none → Q (.ref p) (mset M1 p (.lst xs))) E
theorem qe_tup {x1} (h : QA X B W es tas) : QE X B W (.Tuple es x1 pos) (aTup tas) :=
  pe_imp (pe_tup h) fun s H R ⟨G, σ, M, Q, E, ss, h, k, kx⟩ => ⟨G, σ, M, _, E, ss, h, fun vs H1 ds M1 G1 e m r q => ⟨by rw [← r.len]; exact q.1, fun p hp => Kv.tup m (fun v H' kv => k v H' (kv.lift e)) r hp q.2⟩, kx⟩
theorem qe_lst (h : QA X B W es tas) : QE X B W (.List es pos) (aLst tas) :=
  pe_imp (pe_lst h) fun s H R ⟨G, σ, M, Q, E, ss, h, k, kx⟩ => ⟨G, σ, M, _, E, ss, h, fun vs H1 ds M1 G1 e m r q => ⟨by rw [← r.len]; exact q.1, fun p hp => Kv.lst m (fun v H' kv => k v H' (kv.lift e)) r hp q.2⟩, kx⟩

/-! ### items -/
theorem atI_rp {K : PySem.W.Frag} {G : Hp} {ds : List D} {vs : List V} {i : Int} {d : D} (r : RpA K G ds vs) (h : atI ds i = some d) : ∃ v, atI vs i = some v ∧ Rp K G d v := (by exact HA.Wq.get : @HA.Wq (∃ v, atI vs i = some v ∧ Rp K G d v) (by
  unfold atI at h ⊢
  rw [← r.len]
  cases e : ixN ds.length i with
  | none => rw [e] at h; cases h
  | some j =>
    rw [e] at h
    obtain ⟨v, h1, h2⟩ := r.get (i := j) (d := d) h
    exact ⟨v, h1, h2⟩))
@[simp] def bIx : A2 := fun x y M Q => match x, y with
  | .tup xs, .int i => ∃ d, atI xs i = some d ∧ Q d M
  | .str z, .int i => z.length ≤ sizeLine ∧ ∃ c, atI z.cps.toList i = some c ∧ Q (.str ⟨#[c]⟩) M
  | x, .int i => ∃ xs d, LsAt M x xs ∧ atI xs i = some d ∧ Q d M
  | _, _ => False
theorem bIx_ok {K : PySem.W.Frag} : OkR K bIx (rIx K) := fun G M H x y xv yv Q R m rx ry h k => by
  unfold bIx at h
  split at h
  · obtain ⟨d, h1, h2⟩ := h
    obtain ⟨a, vs, rfl, p, t⟩ := rp_tup rx
    obtain ⟨v, e, r⟩ := atI_rp t h1
    cases ry
    exact .inr (.inl ⟨a, vs, _, v, rfl, rfl, same_sqt m.same p, e, k _ _ (.here m r h2)⟩)
  · obtain ⟨hz, c, h1, h2⟩ := h
    cases rx; cases ry
    exact .inr (.inr ⟨_, _, c, rfl, rfl, hz, h1, k _ _ (.here m (.str _) h2)⟩)
  · obtain ⟨xs, d, h1, h2, h3⟩ := h
    cases ry
    refine lsAt m rx h1 fun a vs e p t => ?_
    obtain ⟨v, e2, r⟩ := atI_rp t h2
    exact .inl ⟨a, vs, _, v, e, rfl, p, e2, k _ _ (.here m r h3)⟩
  · exact h.elim
theorem qe_ix (ha : QE X B W a ta) (hb : QE X B W b tb) (hs : PlainIx b := by exact fun _ _ => rfl) : QE X B W (.Subscript a b pos) (aOp bIx ta tb) :=
  pe_imp (pe_ix ix_seq ha hb hs) fun _ _ _ h => lift_op bIx_ok h

/-! ### slices -/
abbrev AO := AS → Mem → (Option Int → Mem → Prop) → AXs → Prop
def LO (K : PySem.W.Frag) (B : Hp) (W : WX) (t : AO) : TO := fun s H R => ∃ G σ M Q E, SS K B G σ M s H ∧ t σ M Q E ∧ (∀ o H' M' G', Same G G' → SM K G' M' H' → Q o M' → R o H') ∧ ∀ c d s' H', Wx K B E c d s' H' → W c d s' H'
theorem po_imp {e : Option Expr} {t t' : TO} (h : PO X e t) (k : ∀ σ H Q, t' σ H Q → t σ H Q) : PO X e t' := ⟨fun pins s σ H Q I q => h.run pins s σ H Q I (k σ H Q q)⟩
abbrev QO (X : Cx) (B : Hp) (W : WX) (e : Option Expr) (t : AO) : Prop := PO X e (LO X.K B W t)
@[simp] def aNoPart : AO := fun _ M Q _ => Q none M
@[simp] def aPart (t : AE) : AO := fun σ M Q E => t σ M (fun x M1 => match x with
  | .int i => Q (some i) M1
  | _ => False) E
theorem qo_none : QO X B W none aNoPart := po_imp po_none fun s H R ⟨G, σ, M, Q, E, ss, h, k, kx⟩ => k none H M G (Same.refl G) ss.mem h
theorem qo_some (h : QE X B W e te) : QO X B W (some e) (aPart te) := po_imp (po_some h) fun s H R ⟨G, σ, M, Q, E, ss, h, k, kx⟩ => ⟨G, σ, M, _, E, ss, h, fun v H1 ⟨x, M1, G1, e, m, r, q⟩ => by
  match x, q with
  | .int i, q => exact ⟨i, rp_int r, k _ _ M1 G1 e m q⟩, kx⟩
/-- the items of xs[lo:hi] -/
def cut {α : Type} (xs : List α) (lo hi : Option Int) : List α := (xs.drop (HT.sIx xs.length 0 lo)).take (HT.sIx xs.length xs.length hi - HT.sIx xs.length 0 lo)
theorem cut_rp {K : PySem.W.Frag} {G : Hp} {ds : List D} {vs : List V} (r : RpA K G ds vs) (lo hi : Option Int) : RpA K G (cut ds lo hi) (cutV vs lo hi) := by
  unfold cut cutV
  rw [r.len]
  exact (r.drop _).take _
theorem sIx_le {n d : Nat} (hd : d ≤ n) (o : Option Int) : HT.sIx n d o ≤ n := HT.sIx_le n d hd o
theorem cut_whole {α : Type} {xs : List α} {lo hi : Option Int} (h : HT.sIx xs.length 0 lo = 0 ∧ HT.sIx xs.length xs.length hi = xs.length) : cut xs lo hi = xs := by
  unfold cut
  rw [h.1, h.2]
  simp
@[simp] def sSl (x : D) (lo hi : Option Int) (M : Mem) (Q : DK) : Prop := match x with
  | .tup xs => Q (.tup (cut xs lo hi)) M
  | .str z => z.length ≤ sizeLine ∧ Q (.str (cutS z lo hi)) M
  | x => ∃ xs, LsAt M x xs ∧ ∀ p, M p = none → Q (.ref p) (mset M p (.lst (cut xs lo hi)))
@[simp] def aSl (te : AE) (tl th : AO) : AE := fun σ M Q E => te σ M (fun x M1 => tl σ M1 (fun l M2 => th σ M2 (fun u M3 => sSl x l u M3 Q) E) E) E
end
end HA
namespace HA
open PySem PySem.Spec L2
section
variable {X : Cx} {B : Hp} {W : WX} {a b c e o i : Expr} {es rest : List Expr} {ta tb tc te : AE} {tt tu : AT} {tas : AA} {tl th : AO} {lo hi : Option Expr} {pos p2 : Pos}
def rSlAll (K : PySem.W.Frag) : V → Option Int → Option Int → Hp → VK → Prop := fun x lo hi H Q => (rSlA K x lo hi H Q ∨ rSlS x lo hi H Q) ∨ rSlL K x lo hi H Q
theorem sl_all : SlR X (rSlAll X.K) := (sl_tupA.or sl_str).or sl_list
theorem sSl_ok {K : PySem.W.Frag} {G H : Hp} {M : Mem} {x : D} {v : V} {l h : Option Int} {Q : DK} {R : VK} (m : SM K G M H) (r : Rp K G x v) (q : sSl x l h M Q) (k : ∀ v H', Kv K G Q v H' → R v H') : rSlAll K v l h H R := (by exact HA.Wq.get : @HA.Wq (rSlAll K v l h H R) (by
  unfold sSl at q
  split at q
  · obtain ⟨a, vs, rfl, p, t⟩ := rp_tup r
    refine .inl (.inl ⟨a, vs, rfl, same_sqt m.same p, fun z => ?_, fun _ p hp => Kv.tup m k (cut_rp t l h) hp q⟩)
    rw [← t.len] at z
    rw [cut_whole z] at q
    exact k _ _ (.here m r q)
  · cases r
    exact .inl (.inr ⟨_, rfl, q.1, k _ _ (.here m (.str _) q.2)⟩)
  · obtain ⟨xs, h1, h2⟩ := q
    refine lsAt m r h1 fun a vs e p t => ?_
    exact .inr ⟨a, vs, e, p, fun p hp => Kv.lst m k (cut_rp t l h) hp h2⟩))
theorem qe_slice (he : QE X B W e te) (hl : QO X B W lo tl) (hu : QO X B W hi th) : QE X B W (.Subscript e (.Slice lo hi none p2) pos) (aSl te tl th) :=
  pe_imp (pe_slice sl_all he hl hu) fun s H R ⟨G, σ, M, Q, E, ss, h, k, kx⟩ => by
    refine ⟨G, σ, M, _, E, ss, h, fun v H1 ⟨x, M1, G1, e1, m1, r1, q1⟩ => ?_, kx⟩
    refine ⟨G1, σ, M1, _, E, ss.with e1 m1, q1, fun l H2 M2 G2 e2 m2 q2 => ?_, kx⟩
    refine ⟨G2, σ, M2, _, E, (ss.with e1 m1).with e2 m2, q2, fun u H3 M3 G3 e3 m3 q3 => ?_, kx⟩
    exact sSl_ok m3 ((r1.up e2).up e3) q3 fun v H' kv => k v H' (kv.lift (e1.trans (e2.trans e3)))
/-! ### xs[::-1] of a list -/
@[simp] def aRevL (te : AE) : AE := fun σ M Q E => te σ M (fun x M1 => ∃ xs, LsAt M1 x xs ∧ ∀ p, M1 p = none → Q (.ref p) (mset M1 p (.lst xs.reverse))) E
theorem qe_revL {j : Nat} {p1 q1 p3 : Pos} (he : QE X B W e te) : QE X B W (.Subscript e (.Slice none none (some (.UnaryOp .USub (.Constant (.int 1) j p1) q1)) p3) pos) (aRevL te) :=
  pe_imp (pe_revL he) fun s H R ⟨G, σ, M, Q, E, ss, h, k, kx⟩ => ⟨G, σ, M, _, E, ss, h, fun v H1 ⟨x, M1, G1, e1, m1, r1, xs, h1, h2⟩ =>
    lsAt m1 r1 h1 fun a vs e p t => ⟨a, vs, e, p, fun p hp => Kv.lst m1 (fun v H' kv => k v H' (kv.lift e1)) t.reverse hp h2⟩, kx⟩

/-! ### a call of a built-in by values -/
abbrev AC := List D → Mem → DK → Prop
def OkC (K : PySem.W.Frag) (r : AC) (rc : List V → Hp → VK → Prop) : Prop := ∀ G M H xs vs Q R, SM K G M H → RpA K G xs vs → r xs M Q → (∀ v H', Kv K G Q v H' → R v H') → rc vs H R
@[simp] def aCB (r : AC) (t : AA) : AE := fun σ M Q E => t σ M (fun xs M1 => r xs M1 Q) E
def CallB (X : Cx) (id : String) (r : AC) : Prop := ∃ rc, CallR X (.builtin id) rc ∧ OkC X.K r rc
def CallT (X : Cx) (T : String) (r : AC) : Prop := ∃ rc, CallR X (.type T) rc ∧ OkC X.K r rc
theorem lift_cb {K : PySem.W.Frag} {r : AC} {rc : List V → Hp → VK → Prop} (ok : OkC K r rc) {s : L2.St} {H : Hp} {R : VK} (h : LE K B W (aCB r tas) s H R) : tCB rc (LA K B W tas) s H R := by
  obtain ⟨G, σ, M, Q, E, ss, h, k, kx⟩ := h
  exact ⟨G, σ, M, _, E, ss, h, fun vs H1 ds M1 G1 e m t q => ok G1 M1 H1 ds vs Q R m t q fun v H2 kv => k v H2 (kv.lift e), kx⟩
theorem qe_callB {x : Str} {id : String} {r : AC} {p : Pos} (o : CallB X id r) (hg : Gl X x) (hm : X.mg x = none) (hv : bootBuiltins x = some (.builtin id)) (ha : QA X B W (e :: es) tas) (hn : x ≠ "__name__" := by decide) (hdb : (x == ("__debug__" : Str)) = false := by decide)
    (he : starEach (e :: es) X.env = (false, eval e X.env) :: starEach es X.env := by rfl) (hpl : (backTo pos (starEach es X.env)).any (·.1) = false := by rfl) : QE X B W (.Call (.Name x p) (e :: es) [] pos) (aCB r tas) := by
  obtain ⟨rc, ho, ok⟩ := o
  exact pe_imp (pe_callB ho hg hm hv ha hn hdb he hpl) fun _ _ _ h => lift_cb ok h
theorem qe_callT {x : Str} {T : String} {r : AC} {p : Pos} (o : CallT X T r) (hg : Gl X x) (hm : X.mg x = none) (hv : bootBuiltins x = some (.type T)) (ha : QA X B W (e :: es) tas) (hn : x ≠ "__name__" := by decide) (hdb : (x == ("__debug__" : Str)) = false := by decide)
    (he : starEach (e :: es) X.env = (false, eval e X.env) :: starEach es X.env := by rfl) (hpl : (backTo pos (starEach es X.env)).any (·.1) = false := by rfl) : QE X B W (.Call (.Name x p) (e :: es) [] pos) (aCB r tas) := by
  obtain ⟨rc, ho, ok⟩ := o
  exact pe_imp (pe_callTy ho hg hm hv ha hn hdb he hpl) fun _ _ _ h => lift_cb ok h
section
variable {K : PySem.W.Frag} {G : Hp}
theorem rpa1 {x : D} {vs : List V} (h : RpA K G [x] vs) : ∃ v, vs = [v] ∧ Rp K G x v := by cases h with | cons h t => cases t; exact ⟨_, rfl, h⟩
theorem rpa2 {x y : D} {vs : List V} (h : RpA K G [x, y] vs) : ∃ v w, vs = [v, w] ∧ Rp K G x v ∧ Rp K G y w := by
  cases h with | cons h t => obtain ⟨w, rfl, r⟩ := rpa1 t; exact ⟨_, w, rfl, h, r⟩
end
/-- one int in, an int out -/
@[simp] def c1I (f : Int → Int) : AC := fun xs M Q => match xs with
  | [.int i] => Q (.int (f i)) M
  | _ => False
def absI (i : Int) : Int := if i < 0 then -i else i
theorem cb_abs : CallB X "abs" (c1I absI) := ⟨_, call_abs, fun G M H xs vs Q R m r h k => by
  match xs, h with
  | [.int i], h => obtain ⟨v, rfl, rv⟩ := rpa1 r; cases rv; exact ⟨i, rfl, k _ _ (.here m (.int _) h)⟩⟩
@[simp] def cInt : AC := fun xs M Q => match xs with
  | [.int i] => Q (.int i) M
  | [.bl k] => Q (.int (if k then 1 else 0)) M
  | _ => False
theorem ct_int : CallT X "int" cInt := ⟨_, call_int1, fun G M H xs vs Q R m r h k => by
  match xs, h with
  | [.int i], h => obtain ⟨v, rfl, rv⟩ := rpa1 r; cases rv; exact .inl ⟨i, rfl, k _ _ (.here m (.int _) h)⟩
  | [.bl i], h => obtain ⟨v, rfl, rv⟩ := rpa1 r; cases rv; exact .inr ⟨i, rfl, k _ _ (.here m (.int _) h)⟩⟩
@[simp] def cLen : AC := fun xs M Q => match xs with
  | [.tup ys] => Q (.int ys.length) M
  | [.str z] => z.length ≤ sizeLine ∧ Q (.int z.length) M
  | [x] => ∃ ys, LsAt M x ys ∧ Q (.int ys.length) M
  | _ => False
theorem cb_len : CallB X "len" cLen := ⟨_, call_len, fun G M H xs vs Q R m r h k => by
  unfold cLen at h
  split at h
  · obtain ⟨v, rfl, rv⟩ := rpa1 r
    obtain ⟨a, ws, rfl, p, t⟩ := rp_tup rv
    exact ⟨_, ws.length, rfl, .inr ⟨ws, same_sqt m.same p, rfl⟩, k _ _ (.here m (by rw [← t.len]; exact .int _) h)⟩
  · obtain ⟨v, rfl, rv⟩ := rpa1 r
    cases rv
    exact ⟨_, _, rfl, ⟨h.1, rfl⟩, k _ _ (.here m (.int _) h.2)⟩
  · obtain ⟨v, rfl, rv⟩ := rpa1 r
    obtain ⟨ys, h1, h2⟩ := h
    refine lsAt m rv h1 fun a ws e p t => ?_
    subst e
    exact ⟨_, ws.length, rfl, .inl ⟨ws, p, rfl⟩, k _ _ (.here m (by rw [← t.len]; exact .int _) h2)⟩
  · exact h.elim⟩
/-- min, max of two ints -/
@[simp] def c2I (f : Int → Int → Int) : AC := fun xs M Q => match xs with
  | [.int i, .int j] => Q (.int (f i j)) M
  | _ => False
theorem cb_max (hc : X.calm = true) : CallB X "max" (c2I fun i j => if j > i then j else i) := ⟨_, call_max2 hc, fun G M H xs vs Q R m r h k => by
  match xs, h with
  | [.int i, .int j], h => obtain ⟨v, w, rfl, r1, r2⟩ := rpa2 r; cases r1; cases r2; exact ⟨i, j, rfl, k _ _ (.here m (.int _) h)⟩⟩
theorem cb_min (hc : X.calm = true) : CallB X "min" (c2I fun i j => if j < i then j else i) := ⟨_, call_min2 hc, fun G M H xs vs Q R m r h k => by
  match xs, h with
  | [.int i, .int j], h => obtain ⟨v, w, rfl, r1, r2⟩ := rpa2 r; cases r1; cases r2; exact ⟨i, j, rfl, k _ _ (.here m (.int _) h)⟩⟩
/-- tuple(list), tuple(tuple); list(..) -/
@[simp] def cTuple : AC := fun xs M Q => match xs with
  | [.tup ys] => Q (.tup ys) M
  | [x] => ∃ ys, LsAt M x ys ∧ Q (.tup ys) M
  | _ => False
theorem ct_tuple : CallT X "tuple" cTuple := ⟨_, call_tuple_of, fun G M H xs vs Q R m r h k => by
  unfold cTuple at h
  split at h
  · obtain ⟨v, rfl, rv⟩ := rpa1 r
    obtain ⟨a, ws, rfl, p, t⟩ := rp_tup rv
    exact ⟨a, ws, rfl, .inr ⟨same_sqt m.same p, k _ _ (.here m rv h)⟩⟩
  · obtain ⟨v, rfl, rv⟩ := rpa1 r
    obtain ⟨ys, h1, h2⟩ := h
    refine lsAt m rv h1 fun a ws e p t => ?_
    subst e
    exact ⟨a, ws, rfl, .inl ⟨p, fun l hl => Kv.tup m k t hl h2⟩⟩
  · exact h.elim⟩
@[simp] def cList : AC := fun xs M Q => match xs with
  | [.tup ys] => ∀ p, M p = none → Q (.ref p) (mset M p (.lst ys))
  | [x] => ∃ ys, LsAt M x ys ∧ ∀ p, M p = none → Q (.ref p) (mset M p (.lst ys))
  | _ => False
theorem ct_list : CallT X "list" cList := ⟨_, call_list_of, fun G M H xs vs Q R m r h k => by
  unfold cList at h
  split at h
  · obtain ⟨v, rfl, rv⟩ := rpa1 r
    obtain ⟨a, ws, rfl, p, t⟩ := rp_tup rv
    exact ⟨a, ws, rfl, .inr (same_sqt m.same p), fun l hl => Kv.lst m k t hl h⟩
  · obtain ⟨v, rfl, rv⟩ := rpa1 r
    obtain ⟨ys, h1, h2⟩ := h
    refine lsAt m rv h1 fun a ws e p t => ?_
    subst e
    exact ⟨a, ws, rfl, .inl p, fun l hl => Kv.lst m k t hl h2⟩
  · exact h.elim⟩
def cSum : AC := fun xs M Q => match xs with
  | [x] => ∃ ns : List Int, (x = .tup (ns.map D.int) ∨ LsAt M x (ns.map D.int)) ∧ Q (.int ns.sum) M
  | _ => False

/-! ### methods of lists by values -/
abbrev AM := D → List D → Mem → DK → Prop
def OkM (K : PySem.W.Frag) (T : String) (r : AM) (rc : V → List V → Hp → VK → Prop) : Prop :=
  (∀ G M H x xs xv vs Q R, SM K G M H → Rp K G x xv → RpA K G xs vs → r x xs M Q → (∀ v H', Kv K G Q v H' → R v H') → tyV K T xv H ∧ rc xv vs H R)
@[simp] def aMt0 (r : AM) (to : AE) : AE := fun σ M Q E => to σ M (fun x M1 => r x [] M1 Q) E
/-- the receiver is a list already ahead of the arguments -/
def isLs (M : Mem) (x : D) : Prop := ∃ xs, LsAt M x xs
@[simp] def aMt (r : AM) (to : AE) (t : AA) : AE := fun σ M Q E => to σ M (fun x M1 => isLs M1 x ∧ t σ M1 (fun xs M2 => r x xs M2 Q) E) E
theorem tyV_lst {K : PySem.W.Frag} {G H : Hp} {M : Mem} {x : D} {v : V} (m : SM K G M H) (r : Rp K G x v) (h : isLs M x) : tyV K "list" v H := (by exact HA.Wq.get : @HA.Wq (tyV K "list" v H) (by
  obtain ⟨xs, h⟩ := h
  refine lsAt m r h fun a vs e p t => ?_
  subst e
  exact .inl ⟨rfl, vs, p⟩))
end
end HA
namespace HA
open PySem PySem.Spec L2
section
variable {X : Cx} {B : Hp} {W : WX} {a b c e o i : Expr} {es rest : List Expr} {ta tb tc te : AE} {tt tu : AT} {tas : AA} {tl th : AO} {lo hi : Option Expr} {pos p2 apos cpos : Pos}
def OkMt (K : PySem.W.Frag) (r : AM) (rc : V → List V → Hp → VK → Prop) : Prop := ∀ G M H x xs xv vs Q R, SM K G M H → Rp K G x xv → RpA K G xs vs → r x xs M Q → (∀ v H', Kv K G Q v H' → R v H') → rc xv vs H R
theorem qe_lm0 {name : Str} {id : String} {r : AM} {rc : V → List V → Hp → VK → Prop} (slot : Slot "list" name id) (hty : typeOf (.builtin id) = pure (.type "method_descriptor")) (hm : MtR X id rc) (ok : OkMt X.K r rc) (il : ∀ x M Q, r x [] M Q → isLs M x) (ho : QE X B W o ta)
    (hbase : attributeBase o name X.env (eval o X.env) = eval o X.env := by rfl) (hline : (apos.endLine == cpos.line) = true := by rfl) : QE X B W (.Call (.Attribute o name apos) [] [] cpos) (aMt0 r ta) :=
  pe_imp (pe_bm0 PySem.F.plainAttrs_list slot hty hm ho hbase hline) fun s H R ⟨G, σ, M, Q, E, ss, h, k, kx⟩ => ⟨G, σ, M, _, E, ss, h, fun v H1 ⟨x, M1, G1, e, m, rx, q⟩ =>
    ⟨tyV_lst m rx (il x M1 Q q), ok G1 M1 H1 x [] v [] Q R m rx .nil q fun v H2 kv => k v H2 (kv.lift e)⟩, kx⟩
theorem qe_lm {name : Str} {id : String} {r : AM} {rc : V → List V → Hp → VK → Prop} (slot : Slot "list" name id) (hty : typeOf (.builtin id) = pure (.type "method_descriptor")) (hm : MtR X id rc) (ok : OkMt X.K r rc) (ho : QE X B W o ta) (ha : QA X B W (e :: es) tas)
    (hbase : attributeBase o name X.env (eval o X.env) = eval o X.env := by rfl)
    (hfew : ((backTo cpos (starEach (e :: es) X.env)).all (fun x => !x.1) && (backToKw cpos (keywordEach [] X.env)).all (fun x => x.1.isSome)
      && decide ((e :: es).length + ([] : List Keyword).length + (if ([] : List Keyword).isEmpty then 0 else 1) < 30)) = true := by rfl)
    (hline : (apos.endLine == cpos.line) = true := by rfl) (hs : starEach (e :: es) X.env = (false, eval e X.env) :: starEach es X.env := by rfl) (hplain : (backTo cpos (starEach es X.env)).any (·.1) = false := by rfl) :
    QE X B W (.Call (.Attribute o name apos) (e :: es) [] cpos) (aMt r ta tas) :=
  pe_imp (pe_bm PySem.F.plainAttrs_list slot hty hm ho ha hbase hfew hline hs hplain) fun s H R ⟨G, σ, M, Q, E, ss, h, k, kx⟩ => ⟨G, σ, M, _, E, ss, h, fun v H1 ⟨x, M1, G1, e1, m1, rx, q⟩ =>
    ⟨tyV_lst m1 rx q.1, G1, σ, M1, _, E, ss.with e1 m1, q.2, fun vs H2 xs M2 G2 e2 m2 ra q2 => ok G2 M2 H2 x xs v vs Q R m2 (rx.up e2) ra q2 fun v H3 kv => k v H3 (kv.lift (e1.trans e2)), kx⟩, kx⟩
/-- a cell's list is replaced -/
theorem Kv.wr {K : PySem.W.Frag} {G H : Hp} {M : Mem} {Q : DK} {R : VK} {p : Addr} {xs ys : List D} {vs : List V} {d : D} {v : V} (m : SM K G M H) (k : ∀ v H', Kv K G Q v H' → R v H') (h : M p = some (.lst xs)) (r : RpA K G ys vs) (rv : Rp K G d v) (q : Q d (mset M p (.lst ys))) : R v (upd H p (.lst vs)) :=
  k _ _ ⟨d, mset M p (.lst ys), G, Same.refl G, m.write h ⟨vs, r, upd_same⟩, rv, q⟩
theorem cellL {K : PySem.W.Frag} {G H : Hp} {M : Mem} {p : Addr} {xs : List D} (m : SM K G M H) (h : M p = some (.lst xs)) : ∃ vs, RpA K G xs vs ∧ H p = some (.lst vs) := (m.cell p _ h).2
/-- xs.append(e) -/
@[simp] def mAppend : AM := fun x ys M Q => match x, ys with
  | .ref p, [y] => ∃ xs, M p = some (.lst xs) ∧ xs.length < sizeLine ∧ Q .non (mset M p (.lst (xs ++ [y])))
  | _, _ => False
theorem mAppend_ok {K : PySem.W.Frag} : OkMt K mAppend rAppend := fun G M H x xs xv vs Q R m rx ra h k => by
  unfold mAppend at h
  split at h
  · obtain ⟨ys, h1, h2, h3⟩ := h
    obtain ⟨v, rfl, r⟩ := rpa1 ra
    cases rx
    obtain ⟨ws, t, e⟩ := cellL m h1
    exact ⟨_, ws, v, rfl, rfl, e, by rw [← t.len]; exact h2, Kv.wr m k h1 (t.app (.cons r .nil)) .non h3⟩
  · exact h.elim
theorem qe_append (ho : QE X B W o ta) (ha : QA X B W [e] tas)
    (hbase : attributeBase o "append" X.env (eval o X.env) = eval o X.env := by rfl)
    (hfew : ((backTo cpos (starEach [e] X.env)).all (fun x => !x.1) && (backToKw cpos (keywordEach [] X.env)).all (fun x => x.1.isSome)
      && decide (([e] : List Expr).length + ([] : List Keyword).length + (if ([] : List Keyword).isEmpty then 0 else 1) < 30)) = true := by rfl)
    (hline : (apos.endLine == cpos.line) = true := by rfl) (hs : starEach [e] X.env = (false, eval e X.env) :: starEach [] X.env := by rfl) (hplain : (backTo cpos (starEach [] X.env)).any (·.1) = false := by rfl) :
    QE X B W (.Call (.Attribute o "append" apos) [e] [] cpos) (aMt mAppend ta tas) := qe_lm PySem.F.slot_list_append PySem.F.type_list_append mt_append mAppend_ok ho ha hbase hfew hline hs hplain
/-- xs.extend(list or tuple) -/
@[simp] def mExtend : AM := fun x ys M Q => match x, ys with
  | .ref p, [y] => ∃ xs zs, M p = some (.lst xs) ∧ LstAt M y zs ∧ xs.length + zs.length ≤ sizeLine ∧ Q .non (mset M p (.lst (xs ++ zs)))
  | _, _ => False
theorem mExtend_ok {K : PySem.W.Frag} : OkMt K mExtend rExtend := fun G M H x xs xv vs Q R m rx ra h k => by
  unfold mExtend at h
  split at h
  · obtain ⟨ys, zs, h1, h2, h3, h4⟩ := h
    obtain ⟨v, rfl, r⟩ := rpa1 ra
    cases rx
    obtain ⟨ws, t, e⟩ := cellL m h1
    refine lstAt m r h2 fun b us eb pb tb => ?_
    subst eb
    exact ⟨_, b, ws, us, rfl, rfl, e, pb, by rw [← t.len, ← tb.len]; exact h3, Kv.wr m k h1 (t.app tb) .non h4⟩
  · exact h.elim
theorem qe_extend (ho : QE X B W o ta) (ha : QA X B W [e] tas)
    (hbase : attributeBase o "extend" X.env (eval o X.env) = eval o X.env := by rfl)
    (hfew : ((backTo cpos (starEach [e] X.env)).all (fun x => !x.1) && (backToKw cpos (keywordEach [] X.env)).all (fun x => x.1.isSome)
      && decide (([e] : List Expr).length + ([] : List Keyword).length + (if ([] : List Keyword).isEmpty then 0 else 1) < 30)) = true := by rfl)
    (hline : (apos.endLine == cpos.line) = true := by rfl) (hs : starEach [e] X.env = (false, eval e X.env) :: starEach [] X.env := by rfl) (hplain : (backTo cpos (starEach [] X.env)).any (·.1) = false := by rfl) :
    QE X B W (.Call (.Attribute o "extend" apos) [e] [] cpos) (aMt mExtend ta tas) := qe_lm PySem.F.slot_list_extend PySem.F.type_list_extend mt_extend mExtend_ok ho ha hbase hfew hline hs hplain
/-- xs.pop() -/
@[simp] def mPop : AM := fun x ys M Q => match x, ys with
  | .ref p, [] => ∃ xs y, M p = some (.lst xs) ∧ xs[xs.length - 1]? = some y ∧ Q y (mset M p (.lst xs.dropLast))
  | _, _ => False
theorem mPop_ok {K : PySem.W.Frag} : OkMt K mPop rPop := fun G M H x xs xv vs Q R m rx ra h k => by
  unfold mPop at h
  split at h
  · obtain ⟨ys, y, h1, h2, h3⟩ := h
    cases ra
    cases rx
    obtain ⟨ws, t, e⟩ := cellL m h1
    obtain ⟨v, hv, rv⟩ := t.get h2
    exact ⟨_, ws, v, rfl, rfl, e, by rw [← t.len]; exact hv, Kv.wr m k h1 t.dropLast rv h3⟩
  · exact h.elim
theorem qe_pop (ho : QE X B W o ta) (hbase : attributeBase o "pop" X.env (eval o X.env) = eval o X.env := by rfl) (hline : (apos.endLine == cpos.line) = true := by rfl) :
    QE X B W (.Call (.Attribute o "pop" apos) [] [] cpos) (aMt0 mPop ta) := qe_lm0 PySem.F.slot_list_pop PySem.F.type_list_pop mt_pop mPop_ok (fun x M Q h => by
      unfold mPop at h
      split at h
      · obtain ⟨xs, y, h1, _⟩ := h; exact ⟨xs, h1⟩
      · exact h.elim) ho hbase hline

/-! ### fields of instances -/
@[simp] def fGet (K : PySem.W.Frag) (f : Str) (x : D) (M : Mem) (Q : DK) : Prop := match x with
  | .ref a => ∃ C fs d, M a = some (.ins C fs) ∧ Cls K C ∧ NoAttr K C f ∧ fs.lookup f = some d ∧ Q d M
  | _ => False
@[simp] def aFld (K : PySem.W.Frag) (ta : AE) (f : Str) : AE := fun σ M Q E => ta σ M (fun x M1 => fGet K f x M1 Q) E
theorem qe_fld {f : Str} (he : QE X B W e te) (hb : attributeBase e f X.env (eval e X.env) = eval e X.env := by rfl) : QE X B W (.Attribute e f pos) (aFld X.K te f) :=
  pe_imp (pe_fld he hb) fun s H R ⟨G, σ, M, Q, E, ss, h, k, kx⟩ => ⟨G, σ, M, _, E, ss, h, fun v H1 ⟨x, M1, G1, e, m, r, q⟩ => by
    match x, q with
    | .ref a, q =>
      obtain ⟨C, fs, d, h1, cl, na, h2, h3⟩ := q
      obtain ⟨_, dx, vs, fr, eH⟩ := m.cell a _ h1
      obtain ⟨w, hw, rw'⟩ := fr.look h2
      cases r
      exact ⟨a, C, dx, vs, w, rfl, eH, cl, na, hw, k _ _ ((Kv.here m rw' h3).lift e)⟩, kx⟩
end
end HA
/-! A4: targets, statements, loops, comprehensions over trees. -/
namespace HA
open PySem PySem.Spec L2

structure AEn where
  nx : AS → Mem → Prop
  rt : DK
  bk : AS → Mem → Prop := fun _ _ => False
  ct : AS → Mem → Prop := fun _ _ => False
  xx : AXs
abbrev ASt := AEn → AS → Mem → Prop
def LS (K : PySem.W.Frag) (B : Hp) (W : WX) (t : ASt) : TS := fun Dc s H => ∃ G σ M D, SS K B G σ M s H ∧ t D σ M ∧
  (∀ s' H' σ' M' G', Same G G' → SS K B G' σ' M' s' H' → D.nx σ' M' → Dc.nx s' H') ∧ (∀ v H', Kv K G D.rt v H' → Dc.rt v H') ∧
  (∀ s' H' σ' M' G', Same G G' → SS K B G' σ' M' s' H' → D.bk σ' M' → Dc.bk s' H') ∧ (∀ s' H' σ' M' G', Same G G' → SS K B G' σ' M' s' H' → D.ct σ' M' → Dc.ct s' H') ∧ ∀ c d s' H', Wx K B D.xx c d s' H' → W c d s' H'
abbrev QS (X : Cx) (B : Hp) (W : WX) (e : Stmt) (t : ASt) : Prop := PS X e (LS X.K B W t)
abbrev QSs (X : Cx) (B : Hp) (W : WX) (e : List Stmt) (t : ASt) : Prop := PSs X e (LS X.K B W t)

section
variable {X : Cx} {B : Hp} {W : WX} {a b c e o i : Expr} {es rest : List Expr} {ta tb tc te : AE} {tt tu : AT} {tas : AA} {pos pos' : Pos} {st : Stmt} {sts ss1 ss2 : List Stmt} {t u : ASt}
@[simp] def aNext : ASt := fun D σ M => D.nx σ M
@[simp] def aSeq (t u : ASt) : ASt := fun D σ M => t { D with nx := u D } σ M
theorem qss_nil : QSs X B W [] aNext := pss_imp pss_nil fun Dc s H ⟨G, σ, M, D, ss, h, kn, _⟩ => kn s H σ M G (Same.refl G) ss h
theorem qss_cons (h1 : QS X B W st t) (h2 : QSs X B W sts u) : QSs X B W (st :: sts) (aSeq t u) := pss_imp (pss_cons h1 h2) fun Dc s H ⟨G, σ, M, D, ss, h, kn, kr, kb, kc, kx⟩ =>
  ⟨G, σ, M, { D with nx := u D }, ss, h, fun s' H' σ' M' G' e ss' h' => ⟨G', σ', M', D, ss', h', fun a b c d f e' => kn a b c d f (e.trans e'), fun v H' kv => kr v H' (kv.lift e), fun a b c d f e' => kb a b c d f (e.trans e'), fun a b c d f e' => kc a b c d f (e.trans e'), kx⟩, kr, kb, kc, kx⟩
theorem qss_one (h1 : QS X B W st t) : QSs X B W [st] t := pss_one h1
theorem qs_pass : QS X B W (.Pass pos) aNext := ps_imp ps_pass fun Dc s H ⟨G, σ, M, D, ss, h, kn, _⟩ => kn s H σ M G (Same.refl G) ss h
@[simp] def aBreak : ASt := fun D σ M => D.bk σ M
@[simp] def aCont : ASt := fun D σ M => D.ct σ M
theorem qs_break : QS X B W (.Break pos) aBreak := ps_imp ps_break fun Dc s H ⟨G, σ, M, D, ss, h, kn, kr, kb, kc, kx⟩ => kb s H σ M G (Same.refl G) ss h
theorem qs_continue : QS X B W (.Continue pos) aCont := ps_imp ps_continue fun Dc s H ⟨G, σ, M, D, ss, h, kn, kr, kb, kc, kx⟩ => kc s H σ M G (Same.refl G) ss h
theorem qs_doc {x j} : QS X B W (.Expr (.Constant (.str x) j pos) pos') aNext := ps_imp ps_doc fun Dc s H ⟨G, σ, M, D, ss, h, kn, _⟩ => kn s H σ M G (Same.refl G) ss h
@[simp] def aDrop (te : AE) : ASt := fun D σ M => te σ M (fun _ M' => D.nx σ M') D.xx
theorem qs_expr (he : QE X B W e te) (hs : swapsWith e none pos.line X.env = pure false := by rfl) : QS X B W (.Expr e pos) (aDrop te) := ps_imp (ps_expr he hs) fun Dc s H ⟨G, σ, M, D, ss, h, kn, kr, kb, kc, kx⟩ =>
  ⟨G, σ, M, _, D.xx, ss, h, fun v H' ⟨d, M', G', e, m, r, q⟩ => kn s H' σ M' G' e (ss.with e m) q, kx⟩
@[simp] def aRet (te : AE) : ASt := fun D σ M => te σ M D.rt D.xx
theorem qs_ret (he : QE X B W e te) : QS X B W (.Return (some e) pos) (aRet te) := ps_imp (ps_ret he) fun Dc s H ⟨G, σ, M, D, ss, h, kn, kr, kb, kc, kx⟩ =>
  ⟨G, σ, M, D.rt, D.xx, ss, h, fun v H' kv => kr v H' kv, kx⟩
@[simp] def aRetN : ASt := fun D _ M => D.rt .non M
theorem qs_retN : QS X B W (.Return none pos) aRetN := ps_imp ps_retN fun Dc s H ⟨G, σ, M, D, ss, h, kn, kr, kb, kc, kx⟩ => kr _ _ (Kv.here ss.mem .non h)
@[simp] def aIf (tt : AT) (t u : ASt) : ASt := fun D σ M => tt σ M (fun b M1 => (b = true → t D σ M1) ∧ (b = false → u D σ M1)) D.xx
theorem qs_if (hc : QT X B W c tt) (h1 : QSs X B W ss1 t) (h2 : QSs X B W ss2 u) : QS X B W (.If c ss1 ss2 pos) (aIf tt t u) := ps_imp (ps_if hc h1 h2) fun Dc s H ⟨G, σ, M, D, ss, h, kn, kr, kb, kc, kx⟩ =>
  ⟨G, σ, M, _, D.xx, ss, h, fun b H1 M1 G1 e m q => by
    cases b with
    | true => exact iteT ⟨G1, σ, M1, D, ss.with e m, q.1 rfl, fun a b c d f e' => kn a b c d f (e.trans e'), fun v H' kv => kr v H' (kv.lift e), fun a b c d f e' => kb a b c d f (e.trans e'), fun a b c d f e' => kc a b c d f (e.trans e'), kx⟩
    | false => exact iteF ⟨G1, σ, M1, D, ss.with e m, q.2 rfl, fun a b c d f e' => kn a b c d f (e.trans e'), fun v H' kv => kr v H' (kv.lift e), fun a b c d f e' => kb a b c d f (e.trans e'), fun a b c d f e' => kc a b c d f (e.trans e'), kx⟩, kx⟩

/-! ### targets -/
abbrev AG := D → AS → Mem → (AS → Mem → Prop) → AXs → Prop
def KeepO (vs : List Nat) (s s' : List (Option V)) : Prop := s'.length = s.length ∧ ∀ j, j ∉ vs → s'[j]? = s[j]?
theorem KeepO.refl (vs : List Nat) (s : List (Option V)) : KeepO vs s s := ⟨rfl, fun _ _ => rfl⟩
theorem KeepO.trans {vs ws : List Nat} {s s' s'' : List (Option V)} (h : KeepO vs s s') (k : KeepO ws s' s'') : KeepO (vs ++ ws) s s'' := ⟨k.1.trans h.1, fun j hj => by
  rw [List.mem_append, not_or] at hj
  exact (k.2 j hj.2).trans (h.2 j hj.1)⟩
def LG (K : PySem.W.Frag) (B : Hp) (W : WX) (vs : List Nat) (t : AG) : TG := fun v s H R => ∃ G σ M d Q E, SS K B G σ M s H ∧ Rp K G d v ∧ t d σ M Q E ∧ (∀ s' H' σ' M' G', Same G G' → SS K B G' σ' M' s' H' → KeepO vs s s' → Q σ' M' → R s' H') ∧ ∀ c d s' H', Wx K B E c d s' H' → W c d s' H'
abbrev QG (X : Cx) (B : Hp) (W : WX) (vs : List Nat) (e : Expr) (t : AG) : Prop := PG X e (LG X.K B W vs t)
theorem pg_imp {e : Expr} {t t' : TG} (h : PG X e t) (k : ∀ v σ H Q, t' v σ H Q → t v σ H Q) : PG X e t' := ⟨fun pins s σ H v u Q I r q => h.run pins s σ H v u Q I r (k v σ H Q q)⟩
theorem pgs_imp {e : List Expr} {t t' : TGs} (h : PGs X e t) (k : ∀ v σ H Q, t' v σ H Q → t v σ H Q) : PGs X e t' := ⟨fun pins s σ H v u Q I r q => h.run pins s σ H v u Q I r (k v σ H Q q)⟩
theorem SS.set {K : PySem.W.Frag} {G : Hp} {σ : AS} {M : Mem} {s : List (Option V)} {H : Hp} {d : D} {v : V} (ss : SS K B G σ M s H) (j : Nat) (r : Rp K G d v) : SS K B G (σ.set j (some d)) M (s.set j (some v)) H :=
  ⟨ss.base, ss.mem, by simp [ss.len], fun k d' h => by
    by_cases hk : j = k
    · subst hk
      by_cases hl : j < σ.length
      · rw [List.getElem?_set_self hl] at h
        cases h
        exact ⟨v, by rw [List.getElem?_set_self (by rw [← ss.len]; exact hl)], r⟩
      · rw [List.getElem?_eq_none (by simp; omega)] at h
        cases h
    · rw [List.getElem?_set_ne hk] at h
      obtain ⟨v', h1, h2⟩ := ss.sl k d' h
      exact ⟨v', by rw [List.getElem?_set_ne hk]; exact h1, h2⟩⟩
theorem KeepO.set (s : List (Option V)) (j : Nat) (x : Option V) : KeepO [j] s (s.set j x) := ⟨by simp, fun k hk => by
  rw [List.getElem?_set_ne]
  intro e
  subst e
  simp at hk⟩
@[simp] def agName (j : Nat) : AG := fun d σ M Q _ => Q (σ.set j (some d)) M
theorem qg_name (j : Nat) {x : Str} (hN : X.N.Nodup) (hi : X.N[j]? = some x := by rfl) (hx : Loc X.env.scope x := by first | exact Or.inl rfl | exact Or.inr rfl) (hf : X.fn x = true ∨ X.env.scope.names.lookup x = some .local := by first | exact .inl rfl | exact .inr rfl | assumption) : QG X B W [j] (.Name x pos) (agName j) :=
  pg_imp (pg_name hN hi hx hf) fun v s H R ⟨G, σ, M, d, Q, E, ss, r, h, k, kx⟩ => k _ H _ M G (Same.refl G) (ss.set j r) (.set s j _) h
abbrev AGs := List D → AS → Mem → (AS → Mem → Prop) → AXs → Prop
def LGs (K : PySem.W.Frag) (B : Hp) (W : WX) (vs : List Nat) (t : AGs) : TGs := fun v s H R => ∃ G σ M d Q E, SS K B G σ M s H ∧ RpA K G d v ∧ t d σ M Q E ∧ (∀ s' H' σ' M' G', Same G G' → SS K B G' σ' M' s' H' → KeepO vs s s' → Q σ' M' → R s' H') ∧ ∀ c d s' H', Wx K B E c d s' H' → W c d s' H'
abbrev QGs (X : Cx) (B : Hp) (W : WX) (vs : List Nat) (e : List Expr) (t : AGs) : Prop := PGs X e (LGs X.K B W vs t)
@[simp] def agNil : AGs := fun ds σ M Q _ => match ds with
  | [] => Q σ M
  | _ => False
@[simp] def agCons (t : AG) (u : AGs) : AGs := fun ds σ M Q E => match ds with
  | d :: r => t d σ M (fun σ' M' => u r σ' M' Q E) E
  | _ => False
theorem qgs_nil : QGs X B W [] [] agNil := pgs_imp pgs_nil fun v s H R ⟨G, σ, M, d, Q, E, ss, r, h, k, kx⟩ => by
  match d, h with
  | [], h => cases r; exact ⟨rfl, k _ H _ M G (Same.refl G) ss (.refl _ _) h⟩
theorem qgs_cons {vs ws : List Nat} {t : AG} {u : AGs} (h1 : QG X B W vs e t) (h2 : QGs X B W ws es u) (hs : (assignEach (e :: es) X.env).map (·.2) = assign e X.env :: (assignEach es X.env).map (·.2) := by rfl) : QGs X B W (vs ++ ws) (e :: es) (agCons t u) :=
  pgs_imp (pgs_cons h1 h2 hs) fun v s H R ⟨G, σ, M, d, Q, E, ss, r, h, k, kx⟩ => by
    match d, h with
    | d :: ds, h =>
      cases r with
      | cons r1 r2 =>
        exact ⟨_, _, rfl, G, σ, M, d, _, E, ss, r1, h, fun s1 H1 σ1 M1 G1 e1 ss1 k1 q1 => ⟨G1, σ1, M1, ds, Q, E, ss1, r2.up e1, q1, fun s2 H2 σ2 M2 G2 e2 ss2 k2 q2 => k s2 H2 σ2 M2 G2 (e1.trans e2) ss2 (k1.trans k2) q2, kx⟩, kx⟩
theorem pg_or {e : Expr} {t t' : TG} (h : PG X e t) (h' : PG X e t') : PG X e (fun v s H Q => t v s H Q ∨ t' v s H Q) := ⟨fun pins s σ H v u Q I r q => q.elim (h.run pins s σ H v u Q I r) (h'.run pins s σ H v u Q I r)⟩
/-- (a, b, ..) of a tuple or a list -/
@[simp] def agTup (n : Nat) (t : AGs) : AG := fun d σ M Q E => match d with
  | .tup ds => ds.length = n ∧ t ds σ M Q E
  | d => ∃ ds, LsAt M d ds ∧ ds.length = n ∧ t ds σ M Q E
theorem qg_tup {vs : List Nat} {j : Nat} {t : AGs} {n : Nat} (hc : X.calm = true) (h : QGs X B W vs es t) (hn : (assignEach es X.env).length = n := by rfl) (hst : (assignEach es X.env).findIdx? (·.1) = none := by rfl) : QG X B W vs (.Tuple es j pos) (agTup n t) :=
  pg_imp (pg_or (pg_tup hc h hn hst) (pg_lst hc h hn hst)) fun v s H R ⟨G, σ, M, d, Q, E, ss, r, h, k, kx⟩ => by
    unfold agTup at h
    split at h
    · obtain ⟨a, ws, rfl, p, t⟩ := rp_tup r
      exact .inl ⟨a, ws, rfl, same_sqt ss.mem.same p, by rw [← t.len]; exact h.1, G, σ, M, _, Q, E, ss, t, h.2, k, kx⟩
    · obtain ⟨ds, h1, h2, h3⟩ := h
      refine lsAt ss.mem r h1 fun a ws e p t => ?_
      exact .inr ⟨a, ws, e, p, by rw [← t.len]; exact h2, G, σ, M, _, Q, E, ss, t, h3, k, kx⟩
/-- o[i] = .. of a list -/
@[simp] def sSet (o i d : D) (M : Mem) (Q : Mem → Prop) : Prop := match o, i with
  | .ref p, .int k => ∃ xs j, M p = some (.lst xs) ∧ ixN xs.length k = some j ∧ Q (mset M p (.lst (xs.set j d)))
  | _, _ => False
@[simp] def agSub (to ti : AE) : AG := fun d σ M Q E => to σ M (fun o M1 => ti σ M1 (fun i M2 => sSet o i d M2 fun M3 => Q σ M3) E) E
theorem qg_sub (ho : QE X B W o ta) (hi : QE X B W i tb)
    (ha : ∀ v, assign (.Subscript o i pos) X.env v = (do
      let ov ← holding [v] (eval o X.env)
      let iv ← holding [v, ov] (eval i X.env)
      standAt pos
      holding [v, ov, iv] (setItem ov iv v)
      release [v, ov, iv] []) := by intro _; rfl) : QG X B W [] (.Subscript o i pos) (agSub ta tb) :=
  pg_imp (pg_sub ho hi set_list ha) fun v s H R ⟨G, σ, M, d, Q, E, ss, r, h, k, kx⟩ => by
    refine ⟨G, σ, M, _, E, ss, h, fun ov H1 ⟨x, M1, G1, e1, m1, r1, q1⟩ => ⟨G1, σ, M1, _, E, ss.with e1 m1, q1, fun iv H2 ⟨y, M2, G2, e2, m2, r2, q2⟩ => ?_, kx⟩, kx⟩
    match x, y, q2 with
    | .ref p, .int j, q2 =>
      obtain ⟨xs, n, h1, h2, h3⟩ := q2
      obtain ⟨ws, t, eH⟩ := cellL m2 h1
      have r1' := r1.up e2
      cases r1'
      cases r2
      have e12 := e1.trans e2
      refine ⟨p, ws, j, n, rfl, rfl, eH, by rw [← t.len]; exact h2, ?_⟩
      have mw := m2.write (a := p) (o := .lst (ws.set n v)) (c := .lst (xs.set n d)) h1 ⟨_, RpA.set (r.up e12) n t, upd_same⟩
      exact k s _ σ _ G2 e12 ((ss.with e12 mw)) (.refl _ _) h3
/-- target = e -/
@[simp] def aAsg (te : AE) (g : AG) : ASt := fun D σ M => te σ M (fun x M1 => g x σ M1 D.nx D.xx) D.xx
theorem qs_asg {vs : List Nat} {tg : Expr} {g : AG} (he : QE X B W e te) (hg : QG X B W vs tg g) (hs : swapsWithSole [tg] e pos.line X.env = pure false := by rfl) (hw : swappedStores [tg] e X.env = pure none := by rfl)
    (h1 : (assignEach [tg] X.env).map (·.2) = [assign tg X.env] := by rfl) : QS X B W (.Assign [tg] e pos) (aAsg te g) := ps_imp (ps_asg he hg hs hw h1) fun Dc s H ⟨G, σ, M, D, ss, h, kn, kr, kb, kc, kx⟩ =>
  ⟨G, σ, M, _, D.xx, ss, h, fun v H1 ⟨x, M1, G1, e1, m1, r1, q1⟩ => ⟨G1, σ, M1, x, _, D.xx, ss.with e1 m1, r1, q1, fun s' H' σ' M' G' e2 ss' _ q => kn s' H' σ' M' G' (e1.trans e2) ss' q, kx⟩, kx⟩
theorem qs_set (j : Nat) {x : Str} (hN : X.N.Nodup) (he : QE X B W e te) (hi : X.N[j]? = some x := by rfl) (hx : Loc X.env.scope x := by first | exact Or.inl rfl | exact Or.inr rfl) (hs : swapsWith e (some (.Name x pos')) pos.line X.env = pure false := by rfl) (hf : X.fn x = true ∨ X.env.scope.names.lookup x = some .local := by first | exact .inl rfl | exact .inr rfl | assumption) :
    QS X B W (.Assign [.Name x pos'] e pos) (aAsg te (agName j)) := ps_imp (ps_set hN hi hx he hs hf) fun Dc s H ⟨G, σ, M, D, ss, h, kn, kr, kb, kc, kx⟩ =>
  ⟨G, σ, M, _, D.xx, ss, h, fun v H1 ⟨x, M1, G1, e1, m1, r1, q1⟩ => kn _ H1 _ M1 G1 e1 ((ss.with e1 m1).set j r1) q1, kx⟩
/-- a, b = x, y -/
@[simp] def aPar (j l : Nat) (ta : AA) : ASt := fun D σ M => ta σ M (fun ds M1 => match ds with
  | [v, w] => D.nx ((σ.set j (some v)).set l (some w)) M1
  | _ => False) D.xx
theorem qs_par (j l : Nat) {x y : Str} {px py pt : Pos} {kt k2 pt2} (hc : X.calm = true) (hN : X.N.Nodup) (ha : QA X B W [a, b] tas) (hi : X.N[j]? = some x := by rfl) (hj : X.N[l]? = some y := by rfl) (hij : j ≠ l := by decide)
    (hx : X.env.scope.names.lookup x = some .local := by rfl) (hy : X.env.scope.names.lookup y = some .local := by rfl)
    (hw : swappedStores [.Tuple [.Name x px, .Name y py] kt pt] (.Tuple [a, b] k2 pt2) X.env = pure (some [x, y]) := by rfl)
    (hs : swapsWithSole [.Tuple [.Name x px, .Name y py] kt pt] (.Tuple [a, b] k2 pt2) pos.line X.env = pure false := by rfl) :
    QS X B W (.Assign [.Tuple [.Name x px, .Name y py] kt pt] (.Tuple [a, b] k2 pt2) pos) (aPar j l tas) := ps_imp (ps_par hc hN hi hj hij hx hy ha hw hs) fun Dc s H ⟨G, σ, M, D, ss, h, kn, kr, kb, kc, kx⟩ =>
  ⟨G, σ, M, _, D.xx, ss, h, fun vs H1 ds M1 G1 e1 m1 r1 q1 => by
    match ds, q1 with
    | [v, w], q1 =>
      obtain ⟨v', w', rfl, ra, rb⟩ := rpa2 r1
      exact ⟨v', w', rfl, kn _ H1 _ M1 G1 e1 (((ss.with e1 m1).set j ra).set l rb) q1⟩, kx⟩
@[simp] def aPar3 (j l n : Nat) (ta : AA) : ASt := fun D σ M => ta σ M (fun ds M1 => match ds with
  | [u, v, w] => D.nx (((σ.set j (some u)).set l (some v)).set n (some w)) M1
  | _ => False) D.xx
end
end HA
namespace HA
open PySem PySem.Spec L2
section
variable {X : Cx} {B : Hp} {W : WX} {a b c e o i value : Expr} {es rest : List Expr} {ta tb tc te tv : AE} {tt tu : AT} {tas : AA} {pos pos' tpos : Pos} {st : Stmt} {sts ss1 ss2 : List Stmt} {t u : ASt}
theorem rpa3 {K : PySem.W.Frag} {G : Hp} {x y z : D} {vs : List V} (h : RpA K G [x, y, z] vs) : ∃ v w u, vs = [v, w, u] ∧ Rp K G x v ∧ Rp K G y w ∧ Rp K G z u := by
  cases h with | cons h t => obtain ⟨w, u, rfl, r, r2⟩ := rpa2 t; exact ⟨_, w, u, rfl, h, r, r2⟩
theorem qs_par3 (j l n : Nat) {x y z : Str} {px py pz pt : Pos} {kt k2 pt2} (hc : X.calm = true) (hN : X.N.Nodup) (ha : QA X B W [a, b, c] tas) (hi : X.N[j]? = some x := by rfl) (hj : X.N[l]? = some y := by rfl) (hn : X.N[n]? = some z := by rfl) (hij : j ≠ l := by decide) (hil : j ≠ n := by decide) (hjl : l ≠ n := by decide)
    (hx : X.env.scope.names.lookup x = some .local := by rfl) (hy : X.env.scope.names.lookup y = some .local := by rfl) (hz : X.env.scope.names.lookup z = some .local := by rfl)
    (hw : swappedStores [.Tuple [.Name x px, .Name y py, .Name z pz] kt pt] (.Tuple [a, b, c] k2 pt2) X.env = pure (some [x, y, z]) := by rfl)
    (hs : swapsWithSole [.Tuple [.Name x px, .Name y py, .Name z pz] kt pt] (.Tuple [a, b, c] k2 pt2) pos.line X.env = pure false := by rfl) :
    QS X B W (.Assign [.Tuple [.Name x px, .Name y py, .Name z pz] kt pt] (.Tuple [a, b, c] k2 pt2) pos) (aPar3 j l n tas) := ps_imp (ps_par3 hc hN hi hj hn hij hil hjl hx hy hz ha hw hs) fun Dc s H ⟨G, σ, M, D, ss, h, kn, kr, kb, kc, kx⟩ =>
  ⟨G, σ, M, _, D.xx, ss, h, fun vs H1 ds M1 G1 e1 m1 r1 q1 => by
    match ds, q1 with
    | [u, v, w], q1 =>
      obtain ⟨u', v', w', rfl, ra, rb, rc⟩ := rpa3 r1
      exact ⟨u', v', w', rfl, kn _ H1 _ M1 G1 e1 ((((ss.with e1 m1).set j ra).set l rb).set n rc) q1⟩, kx⟩

/-! ### op= -/
def IpOk (X : Cx) (op : Operator) (r : A2) : Prop := ∃ rc, PIp X op rc ∧ OkR X.K r rc
@[simp] def aAug (j : Nat) (r : A2) (te : AE) : ASt := fun D σ M => onSlot σ[j]? fun x => te σ M (fun y M1 => r x y M1 fun z M2 => D.nx (σ.set j (some z)) M2) D.xx
theorem qs_aug (j : Nat) {x : Str} {op : Operator} {r : A2} (hN : X.N.Nodup) (o : IpOk X op r) (he : QE X B W e te) (hi : X.N[j]? = some x := by rfl) (hx : Loc X.env.scope x := by first | exact Or.inl rfl | exact Or.inr rfl) (hf : X.fn x = true ∨ X.env.scope.names.lookup x = some .local := by first | exact .inl rfl | exact .inr rfl | assumption) :
    QS X B W (.AugAssign (.Name x pos') op e pos) (aAug j r te) := by
  obtain ⟨rc, ho, ok⟩ := o
  refine ps_imp (ps_aug hN hi hx he ho hf) fun Dc s H ⟨G, σ, M, D, ss, h, kn, kr, kb, kc, kx⟩ => ?_
  obtain ⟨d, e1, q⟩ := onSlot_ok h
  obtain ⟨v, e2, r1⟩ := ss.sl j d e1
  refine ⟨v, e2, G, σ, M, _, D.xx, ss, q, fun w H1 ⟨y, M1, G1, e3, m1, r2, q1⟩ => ?_, kx⟩
  exact ok G1 M1 H1 d y v w _ _ m1 (r1.up e3) r2 q1 fun z H2 ⟨zd, M2, G2, e4, m2, r3, q2⟩ => kn _ H2 _ M2 G2 (e3.trans e4) ((ss.with (e3.trans e4) m2).set j r3) q2
theorem pip_of {op : Operator} {rc : R2} (h : OpR X (inplaceOp op) rc) : PIp X op rc := fun pins s σ H x y v u Q I r1 r2 q => h pins s σ H x y v u Q I r1 r2 q
@[simp] def bIAdd : A2 := fun x y M Q => match x, y with
  | .int i, .int j => Q (.int (i + j)) M
  | .str i, .str j => i.length + j.length ≤ sizeLine ∧ Q (.str (i ++ j)) M
  | .ref p, y => ∃ xs ys, M p = some (.lst xs) ∧ LstAt M y ys ∧ xs.length + ys.length ≤ sizeLine ∧ Q (.ref p) (mset M p (.lst (xs ++ ys)))
  | _, _ => False
theorem i_add : IpOk X .Add bIAdd := ⟨_, pip_of ((iop_add.or iop_add_str).or iop_ext), fun G M H x y xv yv Q R m rx ry h k => by
  unfold bIAdd at h
  split at h
  · cases rx; cases ry; exact .inl (.inl ⟨_, _, rfl, rfl, k _ _ (.here m (.int _) h)⟩)
  · cases rx; cases ry; exact .inl (.inr ⟨_, _, rfl, rfl, h.1, k _ _ (.here m (.str _) h.2)⟩)
  · obtain ⟨xs, ys, h1, h2, h3, h4⟩ := h
    cases rx
    obtain ⟨ws, t, e⟩ := cellL m h1
    refine lstAt m ry h2 fun b us eb pb tb => ?_
    subst eb
    exact .inr ⟨_, b, ws, us, rfl, rfl, e, pb, by rw [← t.len, ← tb.len]; exact h3, Kv.wr m k h1 (t.app tb) (.ref _) h4⟩
  · exact h.elim⟩
theorem i_sub : IpOk X .Sub (bI0 fun i j => i - j) := ⟨_, pip_of iop_sub, bI0_ok⟩
theorem i_mul : IpOk X .Mult (bI MulOk fun i j => i * j) := ⟨_, pip_of iop_mulO, bI_ok⟩
theorem i_shr : IpOk X .RShift (bI ShrOk fun i j => i / 2 ^ j.toNat) := ⟨_, pip_of iop_shr, bI_ok⟩
theorem i_and : IpOk X .BitAnd (bI0 Builtin.bitAnd) := ⟨_, pip_of iop_and, bI0_ok⟩
theorem i_or : IpOk X .BitOr (bI0 Builtin.bitOr) := ⟨_, pip_of iop_or, bI0_ok⟩
theorem i_xor : IpOk X .BitXor (bI0 Builtin.bitXor) := ⟨_, pip_of iop_xor, bI0_ok⟩

/-! ### fields stored -/
@[simp] def fSet (K : PySem.W.Frag) (f : Str) (x d : D) (M : Mem) (Q : Mem → Prop) : Prop := match x with
  | .ref a => ∃ C fs, M a = some (.ins C fs) ∧ Cls K C ∧ NoAttr K C f ∧ fs.length < 1000 ∧ Q (mset M a (.ins C (putD f d fs)))
  | _ => False
@[simp] def aFldS (K : PySem.W.Frag) (to tv : AE) (f : Str) : ASt := fun D σ M => tv σ M (fun d M1 => to σ M1 (fun x M2 => fSet K f x d M2 fun M3 => D.nx σ M3) D.xx) D.xx
theorem fSet_ok {K : PySem.W.Frag} {G H : Hp} {M : Mem} {f : Str} {x d : D} {xv v : V} {Q : Mem → Prop} {P : Hp → Prop} (m : SM K G M H) (rx : Rp K G x xv) (r : Rp K G d v) (h : fSet K f x d M Q) (k : ∀ M' H', SM K G M' H' → Q M' → P H') :
    ∃ a C dx fs, xv = .ref a ∧ H a = some (.ins C dx fs) ∧ Cls K C ∧ NoAttr K C f ∧ fs.length < 1000 ∧ P (upd H a (.ins C dx (putF f v fs))) := (by exact HA.Wq.get : @HA.Wq (∃ a C dx fs, xv = .ref a ∧ H a = some (.ins C dx fs) ∧ Cls K C ∧ NoAttr K C f ∧ fs.length < 1000 ∧ P (upd H a (.ins C dx (putF f v fs)))) (by
  match x, h with
  | .ref a, h =>
    obtain ⟨C, fs, h1, cl, na, hz, q⟩ := h
    obtain ⟨_, dx, vs, fr, eH⟩ := m.cell a _ h1
    cases rx
    exact ⟨a, C, dx, vs, rfl, eH, cl, na, by rw [← fr.len]; exact hz, k _ _ (m.write (c := .ins C (putD f d fs)) h1 ⟨dx, _, FR.put r fr, upd_same⟩) q⟩))
theorem qs_fld {f : Str} (ha : QE X B W o ta) (hv : QE X B W value tv) (hs : swapsWith value (some (.Attribute o f pos')) pos.line X.env = pure false := by rfl) : QS X B W (.Assign [.Attribute o f pos'] value pos) (aFldS X.K ta tv f) :=
  ps_imp (ps_fld ha hv hs) fun Dc s H ⟨G, σ, M, D, ss, h, kn, kr, kb, kc, kx⟩ =>
    ⟨G, σ, M, _, D.xx, ss, h, fun v H1 ⟨d, M1, G1, e1, m1, r1, q1⟩ => ⟨G1, σ, M1, _, D.xx, ss.with e1 m1, q1, fun xv H2 ⟨x, M2, G2, e2, m2, r2, q2⟩ =>
      fSet_ok (P := fun H3 => Dc.nx s H3) m2 r2 (r1.up e2) q2 fun M3 H3 m3 q3 => kn s H3 σ M3 G2 (e1.trans e2) (ss.with (e1.trans e2) m3) q3, kx⟩, kx⟩
/-- o.f op= e -/
def aFldAug (K : PySem.W.Frag) (to tv : AE) (r : A2) (f : Str) : ASt := fun D σ M => to σ M (fun x M1 => match x with
  | .ref a => ∃ C fs old, M1 a = some (.ins C fs) ∧ Cls K C ∧ NoAttr K C f ∧ fs.lookup f = some old ∧
      tv σ M1 (fun y M3 => r old y M3 fun z M4 => ∃ fs', M4 a = some (.ins C fs') ∧ fs'.length < 1000 ∧ D.nx σ (mset M4 a (.ins C (putD f z fs')))) D.xx
  | _ => False) D.xx
def IfOk (X : Cx) (op : Operator) (r : A2) : Prop := ∃ rc, InOp X op rc ∧ OkR X.K r rc
theorem if_of {op : Operator} {r : A2} (h : IpOk X op r) : IfOk X op r := h
theorem qs_fldaug {f : Str} {op : Operator} {r : A2} (ha : QE X B W o ta) (hv : QE X B W value tv) (ho : IfOk X op r) : QS X B W (.AugAssign (.Attribute o f tpos) op value pos) (aFldAug X.K ta tv r f) := (by exact HA.Wq.get : @HA.Wq (QS X B W (.AugAssign (.Attribute o f tpos) op value pos) (aFldAug X.K ta tv r f)) (by
  obtain ⟨rc, ho, ok⟩ := ho
  refine ps_imp (ps_fldaug ha hv ho) fun Dc s H ⟨G, σ, M, D, ss, h, kn, kr, kb, kc, kx⟩ => ?_
  refine ⟨G, σ, M, _, D.xx, ss, h, fun v H1 ⟨x, M1, G1, e1, m1, r1, q1⟩ => ?_, kx⟩
  match x, q1 with
  | .ref a, q1 =>
    obtain ⟨C, fs, d, h1, cl, na, h2, h3⟩ := q1
    obtain ⟨_, dx, vs, fr, eH⟩ := m1.cell a _ h1
    obtain ⟨w, hw, rw'⟩ := fr.look h2
    cases r1
    refine ⟨a, C, dx, vs, w, rfl, eH, cl, na, hw, G1, σ, M1, _, D.xx, ss.with e1 m1, h3, fun yv H2 ⟨y, M2, G2, e2, m2, r2, q2⟩ => ?_, kx⟩
    refine ok G2 M2 H2 d y w yv _ _ m2 (rw'.up e2) r2 q2 fun zv H3 ⟨z, M3, G3, e3, m3, r3, q3⟩ => ?_
    obtain ⟨fs', h5, hz, q4⟩ := q3
    obtain ⟨_, dx', vs', fr', eH'⟩ := m3.cell a _ h5
    exact ⟨dx', vs', eH', by rw [← fr'.len]; exact hz, kn s _ σ _ G3 (e1.trans (e2.trans e3)) (ss.with (e1.trans (e2.trans e3)) (m3.write (c := .ins C (putD f z fs')) h5 ⟨dx', _, FR.put r3 fr', upd_same⟩)) q4⟩))
end
end HA
/-! A5: what is walked; for, while, comprehensions over trees. -/
namespace HA
open PySem PySem.Spec L2

/-- the iterator J yields the things xs, as long as st holds of the memory -/
structure ItOk (K : PySem.W.Frag) (G : Hp) (xs : List D) (st : Mem → Prop) (J : It) : Prop where
  go : ∀ (i : Nat) G' M H, i < xs.length → Same G G' → SM K G' M H → st M → J.go i H
  stop : ∀ (i : Nat) G' M H, xs.length ≤ i → Same G G' → SM K G' M H → st M → J.stop i H
  yld : ∀ (i : Nat) G' M H x H', i < xs.length → Same G G' → SM K G' M H → st M → J.yld i H x H' → ∃ d G2, xs[i]? = some d ∧ Same G' G2 ∧ SM K G2 M H' ∧ Rp K G2 d x
abbrev AI := AS → Mem → (List D → (Mem → Prop) → Mem → Prop) → AXs → Prop
def LI (K : PySem.W.Frag) (B : Hp) (W : WX) (t : AI) : TI := fun s H R => ∃ G σ M Q E, SS K B G σ M s H ∧ t σ M Q E ∧ (∀ J H' xs st M' G', Same G G' → SM K G' M' H' → ItOk K G' xs st J → Q xs st M' → R J H') ∧ ∀ c d s' H', Wx K B E c d s' H' → W c d s' H'
abbrev QI (X : Cx) (B : Hp) (W : WX) (tg e : Expr) (t : AI) : Prop := PI X tg e (LI X.K B W t)

section
variable {X : Cx} {B : Hp} {W : WX} {a b c e o i tg value : Expr} {es rest : List Expr} {ta tb tc te tv : AE} {tt tu : AT} {tas : AA} {ti : AI} {pos pos' tpos p : Pos} {st : Stmt} {sts ss1 ss2 body : List Stmt} {t u : ASt}
theorem pi_imp {t t' : TI} (h : PI X tg e t) (k : ∀ σ H R, t' σ H R → t σ H R) : PI X tg e t' := ⟨fun pins s σ H R I q => h.run pins s σ H R I (k σ H R q)⟩
theorem get_lt {α : Type} {xs : List α} {i : Nat} (h : i < xs.length) : ∃ x, xs[i]? = some x := ⟨xs[i], by simp [h]⟩
theorem itok_list {K : PySem.W.Frag} {G : Hp} {a : Addr} {xs : List D} {st : Mem → Prop} (h : ∀ G' M H, Same G G' → SM K G' M H → st M → ∃ vs, SqL K H a vs ∧ RpA K G' xs vs) : ItOk K G xs st (Itl K a) where
  go := fun i G' M H hi e m s => by
    obtain ⟨vs, h1, h2⟩ := h G' M H e m s
    obtain ⟨v, hv⟩ := get_lt (xs := vs) (i := i) (by rw [← h2.len]; exact hi)
    exact ⟨vs, v, h1, hv⟩
  stop := fun i G' M H hi e m s => by
    obtain ⟨vs, h1, h2⟩ := h G' M H e m s
    exact ⟨vs, h1, by rw [← h2.len]; exact hi⟩
  yld := fun i G' M H x H' hi e m s y => by
    obtain ⟨vs, h1, h2⟩ := h G' M H e m s
    obtain ⟨rfl, y⟩ := y
    obtain ⟨d, hd, r⟩ := h2.getV (y vs h1)
    exact ⟨d, G', hd, Same.refl _, m, r⟩
theorem itok_tup {K : PySem.W.Frag} {G : Hp} {a : Addr} {xs : List D} {st : Mem → Prop} (h : ∀ G' M H, Same G G' → SM K G' M H → st M → ∃ vs, SqT K H a vs ∧ RpA K G' xs vs) : ItOk K G xs st (Itt K a) where
  go := fun i G' M H hi e m s => by
    obtain ⟨vs, h1, h2⟩ := h G' M H e m s
    obtain ⟨v, hv⟩ := get_lt (xs := vs) (i := i) (by rw [← h2.len]; exact hi)
    exact ⟨vs, v, h1, hv⟩
  stop := fun i G' M H hi e m s => by
    obtain ⟨vs, h1, h2⟩ := h G' M H e m s
    exact ⟨vs, h1, by rw [← h2.len]; exact hi⟩
  yld := fun i G' M H x H' hi e m s y => by
    obtain ⟨vs, h1, h2⟩ := h G' M H e m s
    obtain ⟨rfl, y⟩ := y
    obtain ⟨d, hd, r⟩ := h2.getV (y vs h1)
    exact ⟨d, G', hd, Same.refl _, m, r⟩
/-- a list, a tuple; what is walked must stand still -/
@[simp] def still (x : D) (xs : List D) : Mem → Prop := match x with
  | .ref a => fun M => M a = some (.lst xs)
  | _ => fun _ => True
def aWalkL (te : AE) : AI := fun σ M Q E => te σ M (fun x M1 => ∃ xs, LsAt M1 x xs ∧ Q xs (still x xs) M1) E
theorem qi_list (he : QE X B W e te) : QI X B W tg e (aWalkL te) := pi_imp (pi_list he) fun s H R ⟨G, σ, M, Q, E, ss, h, k, kx⟩ => by
  refine ⟨G, σ, M, _, E, ss, h, fun v H1 ⟨x, M1, G1, e1, m1, r1, xs, h1, q⟩ => ?_, kx⟩
  have ok : ∀ a, v = .ref a → ItOk X.K G1 xs (still x xs) (Itl X.K a) := fun a ea => itok_list fun G' M' H' e' m' s' => by
    have r' := r1.up e'
    match x, h1, s', r' with
    | .lst ys, h1, s', r' => cases h1; cases r' with | lst g t => cases ea; exact ⟨_, .of (m'.same _ _ g), t⟩
    | .frz ys, h1, s', r' => cases h1; cases r' with | frz g t => cases ea; exact ⟨_, m'.same.seq g, t⟩
    | .ref b, h1, s', r' => cases r'; cases ea; obtain ⟨vs, t, eH⟩ := cellL m' s'; exact ⟨vs, .of eH, t⟩
  refine lsAt m1 r1 h1 fun a vs ea p t => ?_
  exact ⟨a, ea, ⟨vs, p⟩, k _ H1 xs _ M1 G1 e1 m1 (ok a ea) q⟩
def aWalkT (te : AE) : AI := fun σ M Q E => te σ M (fun x M1 => match x with
  | .tup xs => Q xs (fun _ => True) M1
  | _ => False) E
theorem qi_tup (he : QE X B W e te) : QI X B W tg e (aWalkT te) := pi_imp (pi_tup he) fun s H R ⟨G, σ, M, Q, E, ss, h, k, kx⟩ => by
  refine ⟨G, σ, M, _, E, ss, h, fun v H1 ⟨x, M1, G1, e1, m1, r1, q⟩ => ?_, kx⟩
  match x, q with
  | .tup xs, q =>
    obtain ⟨a, vs, rfl, p, t⟩ := rp_tup r1
    refine ⟨a, rfl, ⟨vs, same_sqt m1.same p⟩, k _ H1 xs _ M1 G1 e1 m1 (itok_tup fun G' M' H' e' m' s' => ?_) q⟩
    exact ⟨vs, same_sqt m'.same (same_sqt e' p), t.up e'⟩
/-- lists and tuples -/
theorem pi_or {t t' : TI} (h : PI X tg e t) (h' : PI X tg e t') : PI X tg e (fun s H R => t s H R ∨ t' s H R) := ⟨fun pins s σ H R I q => q.elim (h.run pins s σ H R I) (h'.run pins s σ H R I)⟩
/-- lo, lo + 1, .. -/
def rangeD (lo : Int) (n : Nat) : List D := (List.range n).map fun (j : Nat) => D.int (lo + j)
theorem rangeD_len (lo : Int) (n : Nat) : (rangeD lo n).length = n := by simp [rangeD]
theorem rangeD_get {lo : Int} {n i : Nat} (h : i < n) : (rangeD lo n)[i]? = some (.int (lo + i)) := by simp [rangeD, h]
theorem rangeD_some {lo : Int} {n i : Nat} {d : D} (h : (rangeD lo n)[i]? = some d) : i < n ∧ d = .int (lo + i) := (by exact HA.Wq.get : @HA.Wq (i < n ∧ d = .int (lo + i)) (by
  have hi : i < n := by
    have := (List.getElem?_eq_some_iff.mp h).1
    rwa [rangeD_len] at this
  rw [rangeD_get hi] at h
  exact ⟨hi, (Option.some.inj h).symm⟩))
theorem itok_range {K : PySem.W.Frag} {G : Hp} (lo : Int) (n : Nat) : ItOk K G (rangeD lo n) (fun _ => True) (Itr lo n) where
  go := fun i G' M H hi e m s => by rw [rangeD_len] at hi; exact hi
  stop := fun i G' M H hi e m s => by rw [rangeD_len] at hi; exact hi
  yld := fun i G' M H x H' hi e m s y => by
    rw [rangeD_len] at hi
    obtain ⟨rfl, rfl⟩ := y
    exact ⟨_, G', rangeD_get hi, Same.refl _, m, .int _⟩
def RngOk (j : Int) : Prop := -4611686018427387904 ≤ j ∧ j < 4611686018427387904
@[simp] def aRng1 (ta : AA) : AI := fun σ M Q E => ta σ M (fun xs M1 => match xs with
  | [.int j] => RngOk j ∧ Q (rangeD 0 j.toNat) (fun _ => True) M1
  | _ => False) E
theorem rngok {j : Int} (h : RngOk j) : -(2 ^ 62) ≤ j ∧ j < 2 ^ 62 := by
  have e : (2 : Int) ^ 62 = 4611686018427387904 := by decide
  rw [e]; exact h
theorem qi_range1 (hg : Gl X "range") (hm : X.mg "range" = none) (ha : QA X B W [a] tas) (hs : starEach [a] X.env = [(false, eval a X.env)] := by rfl) : QI X B W tg (.Call (.Name "range" p) [a] [] pos) (aRng1 tas) :=
  pi_imp (pi_range1 hg hm ha hs) fun s H R ⟨G, σ, M, Q, E, ss, h, k, kx⟩ => ⟨G, σ, M, _, E, ss, h, fun vs H1 xs M1 G1 e1 m1 r1 q => by
    match xs, q with
    | [.int j], q =>
      obtain ⟨v, rfl, r⟩ := rpa1 r1
      cases r
      have z := rngok q.1
      exact ⟨j, rfl, z.1, z.2, k _ H1 _ _ M1 G1 e1 m1 (itok_range 0 j.toNat) q.2⟩, kx⟩
@[simp] def aRng2 (ta : AA) : AI := fun σ M Q E => ta σ M (fun xs M1 => match xs with
  | [.int l, .int j] => (RngOk l ∧ RngOk j) ∧ Q (rangeD l (j - l).toNat) (fun _ => True) M1
  | _ => False) E
theorem qi_range2 (hg : Gl X "range") (hm : X.mg "range" = none) (ha : QA X B W [a, b] tas) (hs : starEach [a, b] X.env = [(false, eval a X.env), (false, eval b X.env)] := by rfl) (hs2 : starEach [b] X.env = [(false, eval b X.env)] := by rfl) : QI X B W tg (.Call (.Name "range" p) [a, b] [] pos) (aRng2 tas) :=
  pi_imp (pi_range2 hg hm ha hs hs2) fun s H R ⟨G, σ, M, Q, E, ss, h, k, kx⟩ => ⟨G, σ, M, _, E, ss, h, fun vs H1 xs M1 G1 e1 m1 r1 q => by
    match xs, q with
    | [.int l, .int j], q =>
      obtain ⟨v, w, rfl, ra, rb⟩ := rpa2 r1
      cases ra; cases rb
      have z := rngok q.1.1
      have z2 := rngok q.1.2
      exact ⟨l, j, rfl, ⟨z.1, z.2, z2.1, z2.2⟩, k _ H1 _ _ M1 G1 e1 m1 (itok_range l _) q.2⟩, kx⟩
/-- lo, lo + c, .. (n of them) -/
def stepD (lo c : Int) (n : Nat) : List D := (List.range n).map fun (j : Nat) => D.int (lo + j * c)
theorem stepD_len (lo c : Int) (n : Nat) : (stepD lo c n).length = n := by simp [stepD]
theorem stepD_get {lo c : Int} {n i : Nat} (h : i < n) : (stepD lo c n)[i]? = some (.int (lo + i * c)) := by simp [stepD, h]
theorem stepD_some {lo c : Int} {n i : Nat} {d : D} (h : (stepD lo c n)[i]? = some d) : i < n ∧ d = .int (lo + i * c) := (by exact HA.Wq.get : @HA.Wq (i < n ∧ d = .int (lo + i * c)) (by
  have hi : i < n := by
    have := (List.getElem?_eq_some_iff.mp h).1
    rwa [stepD_len] at this
  rw [stepD_get hi] at h
  exact ⟨hi, (Option.some.inj h).symm⟩))
theorem itok_step {K : PySem.W.Frag} {G : Hp} (lo c : Int) (n : Nat) : ItOk K G (stepD lo c n) (fun _ => True) (Itc lo c n) where
  go := fun i G' M H hi e m s => by rw [stepD_len] at hi; exact hi
  stop := fun i G' M H hi e m s => by rw [stepD_len] at hi; exact hi
  yld := fun i G' M H x H' hi e m s y => by
    rw [stepD_len] at hi
    obtain ⟨rfl, rfl⟩ := y
    exact ⟨_, G', stepD_get hi, Same.refl _, m, .int _⟩
@[simp] def aRng3 (ta : AA) : AI := fun σ M Q E => ta σ M (fun xs M1 => match xs with
  | [.int l, .int j, .int c] => ∃ n, RgC l j c n ∧ Q (stepD l c n) (fun _ => True) M1
  | _ => False) E
theorem qi_range3 (hg : Gl X "range") (hm : X.mg "range" = none) (ha : QA X B W [a, b, c] tas) (hs : starEach [a, b, c] X.env = (false, eval a X.env) :: starEach [b, c] X.env := by rfl) (hpl : (backTo pos (starEach [b, c] X.env)).any (·.1) = false := by rfl) : QI X B W tg (.Call (.Name "range" p) [a, b, c] [] pos) (aRng3 tas) :=
  pi_imp (pi_range3 hg hm ha hs hpl) fun s H R ⟨G, σ, M, Q, E, ss, h, k, kx⟩ => ⟨G, σ, M, _, E, ss, h, fun vs H1 xs M1 G1 e1 m1 r1 q => by
    match xs, q with
    | [.int l, .int j, .int c], ⟨n, q1, q2⟩ =>
      obtain ⟨v, w, u, rfl, ra, rb, rc⟩ := rpa3 r1
      cases ra; cases rb; cases rc
      exact ⟨l, j, c, n, rfl, q1, k _ H1 _ _ M1 G1 e1 m1 (itok_step l c n) q2⟩, kx⟩

/-! ### for -/
def aFor (ti : AI) (g : AG) (tb : ASt) : ASt := fun D σ M => ti σ M (fun xs st M1 => ∃ V : Nat → AS → Mem → Prop, V 0 σ M1 ∧
  (∀ i x σ M, xs[i]? = some x → V i σ M → st M ∧ g x σ M (fun σ2 M2 => tb { D with nx := V (i + 1), ct := V (i + 1), bk := D.nx } σ2 M2) D.xx) ∧
  ∀ σ M, V xs.length σ M → st M ∧ D.nx σ M) D.xx
theorem qs_for {g : AG} {vs : List Nat} (hp : PassesOwn (model X.prog X.w) X.A X.env X.xe) (hc : X.calm = true) (hi : QI X B W tg e ti) (hg : QG X B W vs tg g) (hb : QSs X B W body t) (hs : ∀ x, foldedSetIterable e X.env x = pure x := by intro _; rfl) :
    QS X B W (.For tg e body [] pos) (aFor ti g t) := ps_imp (ps_for hp hc hi hg hb hs) fun Dc s H ⟨G, σ, M, D, ss, h, kn, kr, kb, kc, kx⟩ => by
  refine ⟨G, σ, M, _, D.xx, ss, h, fun J H1 xs stl M1 G1 e1 m1 ok q => ?_, kx⟩
  obtain ⟨Vv, v0, turn, fin⟩ := q
  refine ⟨fun i m s H => m = xs.length - i ∧ i ≤ xs.length ∧ ∃ G' σ M, Same G1 G' ∧ SS X.K B G' σ M s H ∧ Vv i σ M, ⟨xs.length, rfl, Nat.zero_le _, G1, σ, M1, Same.refl _, ss.with e1 m1, v0⟩, ?_⟩
  rintro i m s2 H2 ⟨rfl, hi, G2, σ2, M2, e2, ss2, v2⟩
  by_cases hlt : i < xs.length
  · obtain ⟨x, hx⟩ := get_lt hlt
    obtain ⟨s2', q2⟩ := turn i x σ2 M2 hx v2
    refine .inr ⟨ok.go i G2 M2 H2 hlt e2 ss2.mem s2', fun s3 H3 => ∃ G' σ M, SS X.K B G' σ M s3 H3 ∧ Same G1 G' ∧ Vv (i + 1) σ M, fun s3 H3 ⟨G3, σ3, M3, ss3, e3, v3⟩ => ⟨xs.length - (i + 1), by omega, rfl, hlt, G3, σ3, M3, e3, ss3, v3⟩, fun y H3 hy => ?_⟩
    obtain ⟨d, G3, hd, e3, m3, r3⟩ := ok.yld i G2 M2 H2 y H3 hlt e2 ss2.mem s2' hy
    rw [hx] at hd
    cases hd
    have e23 := e2.trans e3
    refine ⟨G3, σ2, M2, x, _, D.xx, ss2.with e3 m3, r3, q2, fun s4 H4 σ4 M4 G4 e4 ss4 _ q4 => ?_, kx⟩
    have e24 := e23.trans e4
    exact ⟨G4, σ4, M4, _, ss4, q4, fun s5 H5 σ5 M5 G5 e5 ss5 v5 => ⟨G5, σ5, M5, ss5, e24.trans e5, v5⟩, fun v H' kv => kr v H' (kv.lift (e1.trans e24)), fun s5 H5 σ5 M5 G5 e5 ss5 v5 => kn s5 H5 σ5 M5 G5 (e1.trans (e24.trans e5)) ss5 v5,
      fun s5 H5 σ5 M5 G5 e5 ss5 v5 => ⟨G5, σ5, M5, ss5, e24.trans e5, v5⟩, kx⟩
  · have : i = xs.length := by omega
    subst this
    obtain ⟨s2', q2⟩ := fin σ2 M2 v2
    exact .inl ⟨ok.stop _ G2 M2 H2 (Nat.le_refl _) e2 ss2.mem s2', kn s2 H2 σ2 M2 G2 (e1.trans e2) ss2 q2⟩
/-! ### while -/
def aWhile (tt : AT) (tb : ASt) : ASt := fun D σ M => ∃ V : Nat → AS → Mem → Prop, (∃ m, V m σ M) ∧ ∀ m σ M, V m σ M →
  tt σ M (fun b M1 => (b = true → tb { D with nx := fun σ' M' => ∃ m', m' < m ∧ V m' σ' M', ct := fun σ' M' => ∃ m', m' < m ∧ V m' σ' M', bk := D.nx } σ M1) ∧ (b = false → D.nx σ M1)) D.xx
theorem qs_while (hp : PassesOwn (model X.prog X.w) X.A X.env X.xe) (hc : QT X B W c tt) (hb : QSs X B W body t) : QS X B W (.While c body [] pos) (aWhile tt t) := ps_imp (ps_while hp hc hb) fun Dc s H ⟨G, σ, M, D, ss, h, kn, kr, kb, kc, kx⟩ => by
  obtain ⟨Vv, ⟨m0, v0⟩, turn⟩ := h
  refine ⟨fun m s H => ∃ G' σ M, Same G G' ∧ SS X.K B G' σ M s H ∧ Vv m σ M, ⟨m0, G, σ, M, Same.refl G, ss, v0⟩, ?_⟩
  rintro m s2 H2 ⟨G2, σ2, M2, e2, ss2, v2⟩
  refine ⟨G2, σ2, M2, _, D.xx, ss2, turn m σ2 M2 v2, fun b H3 M3 G3 e3 m3 q => ?_, kx⟩
  have e23 := e2.trans e3
  cases b with
  | true =>
    refine iteT ⟨fun s5 H5 => ∃ G' σ M m', m' < m ∧ Same G G' ∧ SS X.K B G' σ M s5 H5 ∧ Vv m' σ M, fun s5 H5 ⟨G', σ, M, m', hm, e, ss, v⟩ => ⟨m', hm, G', σ, M, e, ss, v⟩, ?_⟩
    exact ⟨G3, σ2, M3, _, ss2.with e3 m3, q.1 rfl, fun s5 H5 σ5 M5 G5 e5 ss5 ⟨m', hm, v5⟩ => ⟨G5, σ5, M5, m', hm, e23.trans e5, ss5, v5⟩, fun v H' kv => kr v H' (kv.lift e23), fun s5 H5 σ5 M5 G5 e5 ss5 v5 => kn s5 H5 σ5 M5 G5 (e23.trans e5) ss5 v5,
      fun s5 H5 σ5 M5 G5 e5 ss5 ⟨m', hm, v5⟩ => ⟨G5, σ5, M5, m', hm, e23.trans e5, ss5, v5⟩, kx⟩
  | false => exact iteF (kn s2 H3 σ2 M3 G3 e23 (ss2.with e3 m3) (q.2 rfl))

/-! ### comprehensions -/
@[simp] def wipeA (σ : AS) : List Nat → AS
  | [] => σ
  | i :: r => (wipeA σ r).set i none
theorem wipe_get {s : L2.St} {j : Nat} : ∀ {vs : List Nat}, j ∉ vs → (wipe s vs)[j]? = s[j]? := wipe_out
theorem wipeA_len (σ : AS) : ∀ vs : List Nat, (wipeA σ vs).length = σ.length
  | [] => rfl
  | i :: r => by simp [wipeA, wipeA_len σ r]
theorem wipeA_some {σ : AS} {j : Nat} {d : D} : ∀ {vs : List Nat}, (wipeA σ vs)[j]? = some (some d) → σ[j]? = some (some d) ∧ j ∉ vs
  | [], h => ⟨h, by simp⟩
  | i :: r, h => by
    by_cases e : i = j
    · subst e
      unfold wipeA at h
      by_cases hl : i < (wipeA σ r).length
      · rw [List.getElem?_set_self hl] at h; cases h
      · rw [List.getElem?_eq_none (by simp; omega)] at h; cases h
    · unfold wipeA at h
      rw [List.getElem?_set_ne e] at h
      obtain ⟨h1, h2⟩ := wipeA_some (vs := r) h
      exact ⟨h1, by simp [h2, Ne.symm e]⟩
theorem SS.wipe {K : PySem.W.Frag} {G : Hp} {σ : AS} {M : Mem} {s : L2.St} {H : Hp} (ss : SS K B G σ M s H) (vs : List Nat) : SS K B G (wipeA σ vs) M (L2.wipe s vs) H :=
  ⟨ss.base, ss.mem, by rw [wipeA_len, wipe_length]; exact ss.len, fun j d h => by
    obtain ⟨h1, h2⟩ := wipeA_some h
    obtain ⟨v, h3, r⟩ := ss.sl j d h1
    exact ⟨v, by rw [wipe_get h2]; exact h3, r⟩⟩
theorem wipe_cong {s s' : L2.St} : ∀ {vs : List Nat}, s'.length = s.length → (∀ j, j ∉ vs → s'[j]? = s[j]?) → L2.wipe s' vs = L2.wipe s vs := fun {vs} hl h => by
  apply List.ext_getElem?
  intro j
  by_cases hj : j ∈ vs
  · have z : ∀ {s : L2.St}, ∀ {ws : List Nat}, j ∈ ws → (L2.wipe s ws)[j]? = if j < s.length then some none else none := by
      intro s ws
      induction ws with
      | nil => intro h; cases h
      | cons i r ih =>
        intro h
        show ((L2.wipe s r).set i none)[j]? = _
        by_cases e : i = j
        · subst e
          rw [List.getElem?_set]
          simp [wipe_length]
        · rw [List.getElem?_set_ne e]
          exact ih ((List.mem_cons.mp h).resolve_left (Ne.symm e))
    rw [z hj, z hj, hl]
  · rw [wipe_get hj, wipe_get hj, h j hj]
/-- no exception leaves from within -/
abbrev W0 : WX := fun _ _ _ _ => False
abbrev EF : AXs := fun _ _ _ _ => False
abbrev QTs (X : Cx) (B : Hp) (W : WX) (es : List Expr) (t : AT) : Prop := PTs X es (LT X.K B W t)
@[simp] def aYes : AT := fun _ M Q _ => Q true M
theorem pts_imp {es : List Expr} {t t' : TT} (h : PTs X es t) (k : ∀ σ H Q, t' σ H Q → t σ H Q) : PTs X es t' := ⟨fun pins s σ H Q I q => h.run pins s σ H Q I (k σ H Q q)⟩
theorem qts_nil : QTs X B W [] aYes := pts_imp pts_nil fun s H R ⟨G, σ, M, Q, E, ss, h, k, kx⟩ => k true H M G (Same.refl G) ss.mem h
theorem qts_one (h : QT X B W c tt) : QTs X B W [c] tt := pts_one h
def aLc (ti : AI) (g : AG) (tt : AT) (te : AE) (vs : List Nat) : AE := fun σ M Q E => ti σ M (fun xs st M1 => ∀ p, M1 p = none → ∃ V : Nat → Mem → Prop, V 0 (mset M1 p (.lst [])) ∧
  (∀ i x M, xs[i]? = some x → V i M → st M ∧ g x (wipeA σ vs) M (fun σ2 M2 => tt σ2 M2 (fun b M3 =>
    (b = true → te σ2 M3 (fun y M4 => ∃ acc, M4 p = some (.lst acc) ∧ acc.length < sizeLine ∧ V (i + 1) (mset M4 p (.lst (acc ++ [y])))) EF) ∧ (b = false → V (i + 1) M3)) EF) EF) ∧
  ∀ M, V xs.length M → st M ∧ Q (.ref p) M) E
/-- what a comprehension's block may do: the context of its inside -/
abbrev Blk (X : Cx) (scope : Scope) (P : Cx → Prop) : Prop := ∀ (s : Shared) (H : Hp) (C : Addr) (cl : List (Str × Addr)) (fp : List Addr), P (X.blk s H scope (compEnvC scope cl C X.env) fp)
theorem lift_lc {K : PySem.W.Frag} {g : AG} {vs ws : List Nat} (hv : ∀ j, j ∈ ws → j ∈ vs) {s : L2.St} {H : Hp} {R : VK} (h : LE K B W (aLc ti g tt te vs) s H R) : tLc (LI K B W ti) (LG K B W0 ws g) (LT K B W0 tt) (LE K B W0 te) vs s H R := (by exact HA.Wq.get : @HA.Wq (tLc (LI K B W ti) (LG K B W0 ws g) (LT K B W0 tt) (LE K B W0 te) vs s H R) (by
  obtain ⟨G, σ, M, Q, E, ss, h, k, kx⟩ := h
  refine ⟨G, σ, M, _, E, ss, h, fun J H1 xs stl M1 G1 e1 m1 ok q p hp => ?_, kx⟩
  obtain ⟨Vv, v0, turn, fin⟩ := q p (m1.free hp).2
  have k0 : ∀ c d s' H', Wx K B EF c d s' H' → W0 c d s' H' := fun c d s' H' ⟨_, _, _, _, _, _, _, _, _, _, _, _, z⟩ => z
  refine ⟨fun i m H => m = xs.length - i ∧ i ≤ xs.length ∧ ∃ G' M, Same G1 G' ∧ SM K G' M H ∧ Vv i M, ⟨xs.length, rfl, Nat.zero_le _, G1, _, Same.refl _, m1.new (c := .lst []) hp ⟨[], .nil, upd_same⟩, v0⟩, ?_⟩
  rintro i m H2 ⟨rfl, hi, G2, M2, e2, m2, v2⟩
  by_cases hlt : i < xs.length
  · obtain ⟨x, hx⟩ := get_lt hlt
    obtain ⟨s2', q2⟩ := turn i x M2 hx v2
    refine .inr ⟨ok.go i G2 M2 H2 hlt e2 m2 s2', fun H3 => ∃ G' M, Same G1 G' ∧ SM K G' M H3 ∧ Vv (i + 1) M, fun H3 ⟨G3, M3, e3, m3, v3⟩ => ⟨xs.length - (i + 1), by omega, rfl, hlt, G3, M3, e3, m3, v3⟩, fun y H3 hy => ?_⟩
    obtain ⟨d, G3, hd, e3, m3, r3⟩ := ok.yld i G2 M2 H2 y H3 hlt e2 m2 s2' hy
    rw [hx] at hd
    cases hd
    have e13 := e2.trans e3
    refine ⟨G3, wipeA σ vs, M2, x, _, EF, (ss.with (e1.trans e13) m3).wipe vs, r3, q2, fun s4 H4 σ4 M4 G4 e4 ss4 kp q4 => ⟨?_, G4, σ4, M4, _, EF, ss4, q4, fun b H5 M5 G5 e5 m5 q5 => ?_, k0⟩, k0⟩
    · have w2 : L2.wipe (L2.wipe s vs) vs = L2.wipe s vs := wipe_cong (wipe_length _ _) fun j hj => wipe_get hj
      rw [← w2]
      refine wipe_cong kp.1 fun j hj => kp.2 j fun z => hj (hv j z)
    · have e45 := e4.trans e5
      cases b with
      | true =>
        refine iteT ⟨G5, σ4, M5, _, EF, ss4.with e5 m5, q5.1 rfl, fun yv H6 ⟨yd, M6, G6, e6, m6, r6, acc, h6, hz, v6⟩ => ?_, k0⟩
        obtain ⟨ws, t, eH⟩ := cellL m6 h6
        exact ⟨ws, eH, by rw [← t.len]; exact hz, G6, _, e13.trans (e45.trans e6), m6.write (c := .lst (acc ++ [yd])) h6 ⟨_, t.app (.cons r6 .nil), upd_same⟩, v6⟩
      | false => exact iteF ⟨G5, M5, e13.trans e45, m5, q5.2 rfl⟩
  · have : i = xs.length := by omega
    subst this
    obtain ⟨s2', q2⟩ := fin M2 v2
    exact .inl ⟨ok.stop _ G2 M2 H2 (Nat.le_refl _) e2 m2 s2', k _ _ ⟨.ref p, M2, G2, e1.trans e2, m2, .ref p, q2⟩⟩))
theorem qe_lc {elt iter : Expr} {ifs : List Expr} {scope : Scope} {own : List (Str × Nat)} {ws : List Nat} {g : AG} (hc : X.calm = true) (hN : X.N.Nodup) (hi : QI X B W tg iter ti) (ok : BlkOk X.N X.env.scope scope own) (hv : ∀ j, j ∈ ws → j ∈ own.map (·.2))
    (hg : Blk X scope fun Y => QG Y B W0 ws tg g) (ht : Blk X scope fun Y => QTs Y B W0 ifs tt) (he : Blk X scope fun Y => QE Y B W0 elt te) (hs : ∀ x, foldedSetIterable iter X.env x = pure x := by intro _; rfl) :
    QE X B W (.ListComp elt [⟨tg, iter, ifs, 0⟩] scope pos) (aLc ti g tt te (own.map (·.2))) :=
  pe_imp (pe_lc hc hN hi ok hg ht he hs) fun s H R h => lift_lc hv h
theorem qs_setLc {elt iter : Expr} {ifs : List Expr} {scope : Scope} {own : List (Str × Nat)} {ws : List Nat} {g : AG} {y : Str} {py spos : Pos} (j : Nat) (hc : X.calm = true) (hN : X.N.Nodup) (hi : QI X B W tg iter ti) (ok : BlkOk X.N X.env.scope scope own) (hv : ∀ j, j ∈ ws → j ∈ own.map (·.2))
    (hg : Blk X scope fun Y => QG Y B W0 ws tg g) (ht : Blk X scope fun Y => QTs Y B W0 ifs tt) (he : Blk X scope fun Y => QE Y B W0 elt te) (hy : X.N[j]? = some y := by rfl) (hyl : X.env.scope.names.lookup y = some .local := by rfl)
    (hsw : swapsWith (.ListComp elt [⟨tg, iter, ifs, 0⟩] scope pos) (some (.Name y py)) spos.line X.env = pure true := by exact sw_true rfl rfl rfl (by decide +kernel)) (hs : ∀ x, foldedSetIterable iter X.env x = pure x := by intro _; rfl) :
    QS X B W (.Assign [.Name y py] (.ListComp elt [⟨tg, iter, ifs, 0⟩] scope pos) spos) (aAsg (aLc ti g tt te (own.map (·.2))) (agName j)) :=
  ps_imp (ps_setLc hc hN hy hyl hsw hi ok hg ht he hs) fun Dc s H ⟨G, σ, M, D, ss, h, kn, kr, kb, kc, kx⟩ =>
    lift_lc hv ⟨G, σ, M, _, D.xx, ss, h, fun v H1 ⟨x, M1, G1, e1, m1, r1, q1⟩ => kn _ H1 _ M1 G1 e1 ((ss.with e1 m1).set j r1) q1, kx⟩
end
end HA
/-! A6: what a def promises over trees; calls, methods, new instances; the end. -/
namespace HA
open PySem PySem.Spec L2

/-- things in, the memory, the wanted value, the wanted exception -/
abbrev ASp := List D → Mem → DK → AX → Prop
structure FA (P : Program) (w : World) (K : PySem.W.Frag) (mg : Str → Option Value) (base : Heap) (k : Nat) (f : Addr) (fd : FuncData) (ps : List Str) (sp : ASp) : Prop where
  len : ∀ ds M Q E, sp ds M Q E → ds.length = ps.length
  run : ∀ (A : Around) (outer : List Env) (s : Shared) (H : Hp) (args : Args) (us : List Value) (vs : List V) (ds : List D) (G : Hp) (M : Mem) (Q : DK) (E : AX), Room k A → A.guards = some [] → Env0 P w K mg base A outer s H → BindsTo s fd args (ps.zip us) → Vals vs us → SM K G M H → RpA K G ds vs → sp ds M Q E →
    codeAny (model P w) A (.call (.ref f) args) (CR (L2.CX P w) outer P w H s (Kv K G Q) (Kx K G E)) s
theorem FA.mono {P : Program} {w : World} {K : PySem.W.Frag} {mg : Str → Option Value} {base : Heap} {j k : Nat} {f : Addr} {fd : FuncData} {ps : List Str} {sp : ASp} (F : FA P w K mg base j f fd ps sp) (h : j ≤ k) : FA P w K mg base k f fd ps sp :=
  ⟨F.len, fun A outer s H args us vs ds G M Q E hr => F.run A outer s H args us vs ds G M Q E (hr.mono h)⟩
theorem FA.imp {P : Program} {w : World} {K : PySem.W.Frag} {mg : Str → Option Value} {base : Heap} {k : Nat} {f : Addr} {fd : FuncData} {ps : List Str} {sp sp' : ASp} (F : FA P w K mg base k f fd ps sp) (h : ∀ ds M Q E, sp' ds M Q E → sp ds M Q E) : FA P w K mg base k f fd ps sp' :=
  ⟨fun ds M Q E q => F.len ds M Q E (h _ _ _ _ q), fun A outer s H args us vs ds G M Q E hr hg he hb hv m r q => F.run A outer s H args us vs ds G M Q E hr hg he hb hv m r (h _ _ _ _ q)⟩

/-- things out of a row, by places -/
def pick {α : Type} (pm : List Nat) (zs : List α) : List α := pm.filterMap (zs[·]?)
theorem pick_rp {K : PySem.W.Frag} {G : Hp} {ds : List D} {vs : List V} (r : RpA K G ds vs) : ∀ pm : List Nat, RpA K G (pick pm ds) (pick pm vs)
  | [] => .nil
  | i :: pm => by
    have ih := pick_rp r pm
    unfold pick at ih ⊢
    simp only [List.filterMap_cons]
    cases e : ds[i]? with
    | none =>
      have e2 : vs[i]? = none := by rw [List.getElem?_eq_none_iff] at e ⊢; rw [← r.len]; exact e
      rw [e2]; exact ih
    | some d =>
      obtain ⟨v, h1, h2⟩ := r.get e
      rw [h1]; exact .cons h2 ih
theorem pick_vals {vs : List V} {us : List Value} (r : Vals vs us) : ∀ pm : List Nat, Vals (pick pm vs) (pick pm us)
  | [] => .nil
  | i :: pm => by
    have ih := pick_vals r pm
    unfold pick at ih ⊢
    simp only [List.filterMap_cons]
    cases e : vs[i]? with
    | none =>
      have e2 := r.none_of e
      rw [e2]; exact ih
    | some d =>
      obtain ⟨v, h1, h2⟩ := r.get e
      rw [h1]; exact .cons h2 ih

section
variable {X : Cx} {B : Hp} {W : WX} {k n : Nat} {f C : Addr} {fd : FuncData} {ps ks : List Str} {sp : ASp} {pm : List Nat} {x m : Str} {p pos apos : Pos} {e o : Expr} {es : List Expr} {kws : List Keyword} {ta : AE} {tas tks : AA}
/-- how a call with n things and the keywords ks binds -/
def Bnd (fd : FuncData) (ps : List Str) (n : Nat) (ks : List Str) (pm : List Nat) : Prop := ∀ us ws : List Value, us.length = n → ws.length = ks.length → bindArgs fd ⟨us, ks.zip ws⟩ = pure (ps.zip (pick pm (us ++ ws)))
theorem Wx.of {K : PySem.W.Frag} {G : Hp} {σ : AS} {M : Mem} {s : L2.St} {H : Hp} {E : AXs} (ss : SS K B G σ M s H) {cls : Value} {d : Option Addr} {H' : Hp} (h : Kx K G (E σ) cls d H') : Wx K B E cls d s H' := by
  obtain ⟨C, fs, a, vs, M', G', e1, e2, e3, m, h1, h2, q⟩ := h
  exact ⟨C, fs, a, vs, σ, M', G', e1, e2, ss.with e3 m, h1, h2, q⟩
theorem run_fa {pins : List (Addr × Obj)} {s : Shared} {st : L2.St} {H : Hp} {us ws : List Value} {vs zs : List V} {G : Hp} {σ : AS} {M : Mem} {Q : DK} {E : AXs} {ds es' : List D} {R : VK} (F : FA X.prog X.w X.K X.mg X.base k f fd ps sp) (hr : Room k X.A) (hg : X.A.guards = some []) (tk : Takes X W)
    (hb : Bnd fd ps n ks pm) (I : Inv X pins st H s) (ss : SS X.K B G σ M st H) (r : Vals vs us) (rz : Vals zs ws) (q1 : RpA X.K G ds vs) (q2 : RpA X.K G es' zs) (l1 : ds.length = n) (l2 : es'.length = ks.length) (h : sp (pick pm (ds ++ es')) M Q (E σ))
    (kq : ∀ v H', Kv X.K G Q v H' → R v H') (kx : ∀ c d s' H', Wx X.K B E c d s' H' → W c d s' H') : wpAny (model X.prog X.w) X.A (call (.ref f) us (ks.zip ws)) (EP X pins st R) X.xe s := (by exact HA.Wq.get : @HA.Wq (wpAny (model X.prog X.w) X.A (call (.ref f) us (ks.zip ws)) (EP X pins st R) X.xe s) (by
  have b : BindsTo s fd ⟨us, ks.zip ws⟩ (ps.zip (pick pm (us ++ ws))) := .of_eq (hb us ws (by rw [← r.length, ← q1.len]; exact l1) (by rw [← rz.length, ← q2.len]; exact l2))
  refine wpAny_call (codeAny_mono (F.run X.A X.stack s H _ _ (pick pm (vs ++ zs)) (pick pm (ds ++ es')) G M Q (E σ) hr hg I.env0 b (pick_vals (r.append rz) pm) ss.mem (pick_rp (q1.app q2) pm) h) fun r s' hq => ?_)
  cases r with
  | error z => exact tk z s' (XE.of_call I (fun cls d H' hk => kx _ _ _ _ (Wx.of ss hk)) hq)
  | ok fl =>
    cases fl with
    | ret u =>
      obtain ⟨v, H', I', rv, q⟩ := I.after hq
      exact ⟨v, H', I', rv, kq v H' q⟩
    | next => exact False.elim hq
    | brk => exact False.elim hq
    | cont => exact False.elim hq))

/-! ### keywords -/
def LK := LA
abbrev QK (X : Cx) (B : Hp) (W : WX) (kws : List Keyword) (t : AA) : Prop := PK X kws (LA X.K B W t)
theorem pk_imp {t t' : TA} (h : PK X kws t) (k : ∀ σ H Q, t' σ H Q → t σ H Q) : PK X kws t' := ⟨fun ps pins s σ H Q I q => h.run ps pins s σ H Q I (k σ H Q q)⟩
theorem qk_nil : QK X B W [] aNil := pk_imp pk_nil fun s H R ⟨G, σ, M, Q, E, ss, h, k, kx⟩ => k [] H [] M G (Same.refl G) ss.mem .nil h
theorem qk_cons {nm : Option Str} {kpos : Pos} (ha : QE X B W e ta) (hr : QK X B W kws tas) : QK X B W (⟨nm, e, kpos⟩ :: kws) (aCons ta tas) :=
  pk_imp (pk_cons ha hr) fun s H R ⟨G, σ, M, Q, E, ss, h, k, kx⟩ => ⟨G, σ, M, _, E, ss, h, fun v H1 ⟨x, M1, G1, e, m, r, q⟩ =>
    ⟨G1, σ, M1, _, E, ss.with e m, q, fun vs H2 ds M2 G2 e2 m2 r2 q2 => k (v :: vs) H2 (x :: ds) M2 G2 (e.trans e2) m2 (.cons (r.up e2) r2) q2, kx⟩, kx⟩

/-! ### f(e, .., k = v, ..) -/
@[simp] def aCall (sp : ASp) (n j : Nat) (pm : List Nat) (ta tk : AA) : AE := fun σ M Q E => ta σ M (fun us M1 => tk σ M1 (fun ws M2 => us.length = n ∧ ws.length = j ∧ sp (pick pm (us ++ ws)) M2 Q (E σ)) E) E
/-- a def of the module, as its callers see it -/
structure Cal (P : Program) (w : World) (K : PySem.W.Frag) (mg : Str → Option Value) (base : Heap) (k : Nat) (x : Str) (st : Stmt) (ps : List Str) (sp : ASp) : Prop where
  ex : ∃ f fd, Fun K x x st f fd ∧ mg x = some (.ref f) ∧ FA P w K mg base k f fd ps sp
/-- the binding, for any object of the def -/
def Bds (x qual : Str) (st : Stmt) (ps : List Str) (n : Nat) (ks : List Str) (pm : List Nat) : Prop := ∀ (kV doc pmv : Value) (an : Option Addr) (cdv ct : Value), Bnd (PySem.W.fnOf x qual (defArgs st) (defBody st) (defScope st) .none kV doc pmv an cdv ct) ps n ks pm
theorem Bds.of {qual : Str} {st : Stmt} (b : Bds x qual st ps n ks pm) {K : PySem.W.Frag} (F : Fun K x qual st f fd) : Bnd fd ps n ks pm := by
  obtain ⟨oc, od, kV, doc, pm', an, cdv, ct, osl, rfl, _, _⟩ := F.ex
  exact b _ _ _ _ _ _
theorem qe_call {st : Stmt} {j : Nat} (c : Cal X.prog X.w X.K X.mg X.base k x st ps sp) (hr : Room k X.A) (hg : X.A.guards = some []) (tk : Takes X W) (b : Bds x x st ps n ks pm) (ha : QA X B W (e :: es) tas) (hk : QK X B W kws tks) (hgl : Gl X x := by rfl) (hj : ks.length = j := by rfl)
    (hks : (backToKw pos (keywordEach kws X.env)).filterMap (·.1) = ks := by rfl) (hall : (backToKw pos (keywordEach kws X.env)).all (·.1.isSome) = true := by rfl)
    (hdb : (x == ("__debug__" : Str)) = false := by decide) (he : starEach (e :: es) X.env = (false, eval e X.env) :: starEach es X.env := by rfl)
    (hpl : ((backTo pos (starEach (e :: es) X.env)).any (·.1) || (backToKw pos (keywordEach kws X.env)).any (·.1.isNone)) = false := by rfl) : QE X B W (.Call (.Name x p) (e :: es) kws pos) (aCall sp n j pm tas tks) := by
  obtain ⟨f, fd, hF, hm, F⟩ := c.ex
  have bn := b.of hF
  subst hj
  refine ⟨fun pins s st' H R I ⟨G, σ, M, Q, E, ss, h, kq, kx⟩ => ?_⟩
  refine wpAny_Call_Name_kw (ld_glob I hgl hm ?_ hdb)
  refine PySem.W.callWith_KW (h₀ := X.base) I.ok.mod.kin hF.kp hall (thn (ha.run pos pins s st' H (fun vs H1 => ∃ ds M1 G1, Same G G1 ∧ SM X.K G1 M1 H1 ∧ RpA X.K G1 ds vs ∧ _) I ⟨G, σ, M, _, E, ss, h, fun vs H1 ds M1 G1 e1 m1 r1 q1 => ⟨ds, M1, G1, e1, m1, r1, q1⟩, kx⟩) fun us s1 ⟨vs, H1, I1, r, ds, M1, G1, e1, m1, r1, q1⟩ => ?_) hpl he
  refine thn (hk.run pos pins s1 st' H1 (fun vs H2 => ∃ es' M2 G2, Same G1 G2 ∧ SM X.K G2 M2 H2 ∧ RpA X.K G2 es' vs ∧ _) I1 ⟨G1, σ, M1, _, E, ss.with e1 m1, q1, fun vs H2 ds M2 G2 e2 m2 r2 q2 => ⟨ds, M2, G2, e2, m2, r2, q2⟩, kx⟩) fun ws s2 ⟨zs, H2, I2, rz, es', M2, G2, e2, m2, r2, l1, l2, q2⟩ => ⟨I2.kIn, ?_⟩
  rw [hks]
  exact run_fa F hr hg tk bn I2 (ss.with (e1.trans e2) m2) r rz (r1.up e2) r2 l1 l2 q2 (fun v H' kv => kq v H' (kv.lift (e1.trans e2))) kx
/-- f(k = v, ..), f() -/
theorem qe_call0 {st : Stmt} {j : Nat} (c : Cal X.prog X.w X.K X.mg X.base k x st ps sp) (hr : Room k X.A) (hg : X.A.guards = some []) (tk : Takes X W) (b : Bds x x st ps 0 ks pm) (hk : QK X B W kws tks) (hgl : Gl X x := by rfl) (hj : ks.length = j := by rfl)
    (hks : (backToKw pos (keywordEach kws X.env)).filterMap (·.1) = ks := by rfl) (hall : (backToKw pos (keywordEach kws X.env)).all (·.1.isSome) = true := by rfl)
    (hdb : (x == ("__debug__" : Str)) = false := by decide)
    (hpl : ((backTo pos (starEach [] X.env)).any (·.1) || (backToKw pos (keywordEach kws X.env)).any (·.1.isNone)) = false := by rfl) : QE X B W (.Call (.Name x p) [] kws pos) (aCall sp 0 j pm aNil tks) := by
  obtain ⟨f, fd, hF, hm, F⟩ := c.ex
  have bn := b.of hF
  subst hj
  refine ⟨fun pins s st' H R I ⟨G, σ, M, Q, E, ss, h, kq, kx⟩ => ?_⟩
  refine wpAny_Call_Name_kw (ld_glob I hgl hm ?_ hdb)
  refine PySem.W.callWith_KW0 (h₀ := X.base) I.ok.mod.kin hF.kp hall ?_ hpl
  refine thn (hk.run pos pins s st' H (fun vs H2 => ∃ es' M2 G2, Same G G2 ∧ SM X.K G2 M2 H2 ∧ RpA X.K G2 es' vs ∧ _) I ⟨G, σ, M, _, E, ss, h, fun vs H2 ds M2 G2 e2 m2 r2 q2 => ⟨ds, M2, G2, e2, m2, r2, q2⟩, kx⟩) fun ws s2 ⟨zs, H2, I2, rz, es', M2, G2, e2, m2, r2, l1, l2, q2⟩ => ⟨I2.kIn, ?_⟩
  rw [hks]
  exact run_fa (us := []) (vs := []) (ds := []) F hr hg tk bn I2 (ss.with e2 m2) .nil rz .nil r2 l1 l2 q2 (fun v H' kv => kq v H' (kv.lift e2)) kx
end

/-! ### the rule for a def -/
@[simp] def startA (N : List Str) (ds : List D) : AS := ds.map some ++ List.replicate (N.length - ds.length) none
abbrev BX (P : Program) (w : World) (K : PySem.W.Frag) (mg : Str → Option Value) (base : Heap) (N : List Str) (qual : Str) (st : Stmt) (f : Addr) (cdv : Value) (A : Around) (outer : List Env) (s : Shared) (H : Hp) (E : XK) : Cx := cxOf (L2.CX P w) P w K mg base N qual (defScope st) f cdv A outer s H E
section
variable {P : Program} {w : World} {K : PySem.W.Frag} {mg : Str → Option Value} {base : Heap} {x qual : Str} {st : Stmt} {f : Addr} {fd : FuncData} {N ps : List Str} {k : Nat} {sp : ASp} {t : ASt}
theorem fa_of (F : Fun K x qual st f fd) (S : FnScope N ps (defScope st)) (len : ∀ ds M Q E, sp ds M Q E → ds.length = ps.length)
    (hb : ∀ cdv A outer s H E B W, Room k (BX P w K mg base N qual st f cdv A outer s H E).A → (BX P w K mg base N qual st f cdv A outer s H E).A.guards = some [] → Takes (BX P w K mg base N qual st f cdv A outer s H E) W → PassesOwn (model P w) (BX P w K mg base N qual st f cdv A outer s H E).A (BX P w K mg base N qual st f cdv A outer s H E).env (BX P w K mg base N qual st f cdv A outer s H E).xe → QSs (BX P w K mg base N qual st f cdv A outer s H E) B W (defBody st) t)
    (h : ∀ ds M Q E, sp ds M Q E → t { nx := fun _ M' => Q .non M', rt := Q, xx := fun _ => E } (startA N ds) M) : FA P w K mg base (k + 1) f fd ps sp := by
  obtain ⟨oc, od, kV, doc, pm, an, cdv, ct, osl, rfl, lk, hcd⟩ := F.ex
  refine ⟨len, fun A outer s H args us vs ds G M Q E hr hg e0 hbd r m rp hs => ?_⟩
  have hl : vs.length = ps.length := by rw [← rp.len]; exact len _ _ _ _ hs
  have inK : K.In s.heap := e0.mod.kin.keeps fun b o z => (e0.bs b o z).1
  have nol : s.heap.NoLimit := e0.mod.nolimit.keeps fun b o z => (e0.bs b o z).1
  have kinds : ∀ y ∈ ps.zip us, (defScope st).names.lookup y.1 = some .local ∨ ((defScope st).names.lookup y.1 = some .cell ∧ ((cellsFrom (s.heap.objs.size + 1) (defScope st).names []).lookup y.1).isSome = true) := by
    rintro ⟨y, v⟩ hy
    exact (S.par y (List.of_mem_zip hy).1).imp id fun z => ⟨z, PySem.W.cellsFrom_some _ _ _ (.inl z)⟩
  refine codeAny_call_function hr.depth (inK _ _ lk) rfl S.co S.gen rfl (PySem.W.codeRec_of inK hcd) (hbd _ _ _ _ (wpAny_newFunctionEnv_cells S.kind kinds fun env ee s1 xx => ?_))
  subst ee
  refine ⟨nol.keeps xx.toInCall.keep, codeAny_func ?_⟩
  have I := inv_start (CX := L2.CX P w) (P := P) (w := w) (K := K) (mg := mg) (base := base) (cd := cdv) (E := Kx K G E) S hr.hd e0 hl r xx
  have tk := takes_of (X := BX P w K mg base N qual st f cdv A outer s H (Kx K G E)) (E := Kx K G E) rfl rfl rfl rfl
  have qb := hb cdv A outer s H (Kx K G E) G _ (hr.deeper _) hg tk (passes_of rfl)
  have e0l : (startA N ds).length = (L2.start N vs).length := by simp [startA, L2.start, rp.len]
  have ss : SS K G G (startA N ds) M (L2.start N vs) H := ⟨Same.refl G, m, e0l, fun i d hd => by
    unfold startA at hd
    unfold L2.start
    by_cases hi : i < ds.length
    · rw [List.getElem?_append_left (by simpa using hi), List.getElem?_map] at hd
      cases z : ds[i]? with
      | none => rw [z] at hd; cases hd
      | some y =>
        rw [z] at hd
        cases hd
        obtain ⟨v, h1, h2⟩ := rp.get z
        exact ⟨v, by rw [List.getElem?_append_left (by simp; rw [← rp.len]; exact hi), List.getElem?_map, h1]; rfl, h2⟩
    · rw [List.getElem?_append_right (by simpa using hi), List.getElem?_replicate] at hd
      split at hd <;> cases hd⟩
  have fin : ∀ {σ' : L2.St} {H' : Hp} {s' : Shared} {v : V} {u : Value}, Inv (BX P w K mg base N qual st f cdv A outer s H (Kx K G E)) [] σ' H' s' → RelV v u → Kv K G Q v H' → CE outer P w H s (Kv K G Q) u s' := fun J rv q => ⟨_, _, J.os, J.bare, J.base, J.hok, rv, q⟩
  refine wpAny_mono (qb.run [] s1 (L2.start N vs) H { nx := fun _ H' => Kv K G Q .non H', rt := Kv K G Q } I ⟨G, _, M, _, ss, h ds M Q E hs, fun s' H' σ' M' G' e' ss' q => ⟨.non, M', G', e', ss'.mem, .non, q⟩, fun v H' kv => kv, fun _ _ _ _ _ _ _ z => z, fun _ _ _ _ _ _ _ z => z, fun c d s' H' ⟨C, fs, a, vs, σ, M, G', e1, e2, s5, h1, h2, q⟩ => ⟨C, fs, a, vs, M, G', e1, e2, s5.base, s5.mem, h1, h2, q⟩⟩)
    (fun fl s' hs' => ?_) fun e s' hs' => hs'
  cases fl with
  | ret u => obtain ⟨v, σ', H', J, rv, q⟩ := hs'; exact fin J rv q
  | next => obtain ⟨σ', H', J, q⟩ := hs'; exact fin (v := .non) (u := .none) J rfl q
  | brk => obtain ⟨_, _, _, z⟩ := hs'; exact z.elim
  | cont => obtain ⟨_, _, _, z⟩ := hs'; exact z.elim
end
end HA
/-! A7: repr, isinstance; methods and new instances; the end of a law. -/
namespace HA
open PySem PySem.Spec L2

/-! ### repr -/
/-- what may be shown -/
def ShowOk (d : PyData) : Prop := d.showable = true ∧ d.shown.length ≤ sizeLine ∧ d.depth ≤ 60 ∧ d.hasDict = false
theorem call_reprD {X : Cx} (hu : X.A.units + 64 < cLine) (hg : X.A.guards = some []) : CallR X (.builtin "repr") (fun xs H Q => ∃ x d, xs = [x] ∧ Dp X.K H x d ∧ ShowOk d ∧ Q (.str d.shown) H) := (by exact HA.Wq.get : @HA.Wq (CallR X (.builtin "repr") (fun xs H Q => ∃ x d, xs = [x] ∧ Dp X.K H x d ∧ ShowOk d ∧ Q (.str d.shown) H)) (by
  intro pins s st H xs us Q I r h
  obtain ⟨x, d, rfl, hd, ⟨h1, h2, h3, h4⟩, q⟩ := h
  obtain ⟨u, rfl, rx⟩ := vals1 r
  have fin : ∀ h' u tk, (∀ b o, s.heap.get? b = some o → h'.get? b = some o) → EP X pins st Q (.str d.shown u) { s with heap := h', toks := tk } := fun h' u tk k => ⟨.str d.shown, H, I.kept k, ⟨_, rfl⟩, q⟩
  cases hd with
  | non => cases rx; exact PySem.P.repr_of_none (fin s.heap _ _ fun _ _ e => e)
  | bl b => cases rx; exact PySem.P.repr_of_bool (fin s.heap _ _ fun _ _ e => e)
  | int i =>
    obtain ⟨t, rfl⟩ := rx
    exact PySem.P.repr_of_int (by simpa [PyData.showable] using h1) (fin s.heap _ _ fun _ _ e => e)
  | str z =>
    obtain ⟨t, rfl⟩ := rx
    exact PySem.P.repr_of_str (fin s.heap _ _ fun _ _ e => e) h2
  | lst hs ha =>
    obtain ⟨as, hr⟩ := Dp.reads I _ _ u (.lst hs ha) rx
    cases rx
    exact PySem.repr_of_reads' hr h1 (PyData.noDict_hsm h4) hg (by omega) (fun _ _ e => e) fin h2
  | tup hs ha =>
    obtain ⟨as, hr⟩ := Dp.reads I _ _ u (.tup hs ha) rx
    cases rx
    exact PySem.repr_of_reads' hr h1 (PyData.noDict_hsm h4) hg (by omega) (fun _ _ e => e) fin h2))
def cRepr : AC := fun xs M Q => match xs with
  | [x] => ∃ d, DR M x d ∧ ShowOk d ∧ Q (.str d.shown) M
  | _ => False
section
variable {X : Cx}
theorem cb_repr (hu : X.A.units + 64 < cLine) (hg : X.A.guards = some []) : CallB X "repr" cRepr := ⟨_, call_reprD hu hg, fun G M H xs vs Q R m r h k => by
  match xs, h with
  | [x], ⟨d, h1, h2, h3⟩ =>
    obtain ⟨v, rfl, rv⟩ := rpa1 r
    exact ⟨v, d, rfl, h1.dp m rv, h2, k _ _ (.here m (.str _) h3)⟩⟩

/-! ### isinstance of built-in types -/
def isB (S T : String) : Bool := S == T || (S == "bool" && T == "int")
def tyTab : List String := ["int", "bool", "str", "tuple", "list"]
theorem kitB_tab : ∀ S ∈ ["NoneType", "bool", "int", "str", "tuple", "list"], ∀ T ∈ tyTab, kitB S T = some (isB S T) := by decide +kernel
/-- the type of a thing -/
def TyD (M : Mem) (x : D) (S : String) : Prop := match x with
  | .non => S = "NoneType"
  | .bl _ => S = "bool"
  | .int _ => S = "int"
  | .str _ => S = "str"
  | .tup _ => S = "tuple"
  | x => S = "list" ∧ isLs M x
theorem TyD.mem {M : Mem} {x : D} {S : String} (h : TyD M x S) : S ∈ ["NoneType", "bool", "int", "str", "tuple", "list"] := by
  unfold TyD at h
  split at h <;> first | (subst h; decide) | (obtain ⟨rfl, _⟩ := h; decide)
theorem TyD.x {K : PySem.W.Frag} {G H : Hp} {M : Mem} {x : D} {S : String} {v : V} (m : SM K G M H) (r : Rp K G x v) (h : TyD M x S) : TyX K H v (.type S) := (by exact HA.Wq.get : @HA.Wq (TyX K H v (.type S)) (by
  unfold TyD at h
  split at h
  · subst h; cases r; exact .base .non
  · subst h; cases r; exact .base (.bl _)
  · subst h; cases r; exact .base (.int _)
  · subst h; cases r; exact .base (.str _)
  · subst h
    obtain ⟨a, vs, rfl, p, t⟩ := rp_tup r
    rcases same_sqt m.same p with (p | ⟨o, p⟩) | ⟨o, its, n, p, c, _⟩
    · exact .base (.tup p)
    · exact .fTuple p
    · exact .kTuple p c
  · obtain ⟨rfl, xs, h⟩ := h
    refine lsAt m r h fun a vs e p t => ?_
    subst e
    rcases p with (p | ⟨o, p⟩) | ⟨o, its, n, p, c, _⟩
    · exact .base (.lst p)
    · exact .base (.frz p)
    · exact .kList p c))
def cIsi : AC := fun xs M Q => match xs with
  | [x, .ty T] => ∃ S, TyD M x S ∧ T ∈ tyTab ∧ Q (.bl (isB S T)) M
  | [x, .tup cs] => ∃ (S : String) (Ts : List String), TyD M x S ∧ cs = Ts.map D.ty ∧ (∀ T ∈ Ts, T ∈ tyTab) ∧ Q (.bl (Ts.any (isB S))) M
  | _ => False
theorem kit_any {K : PySem.W.Frag} {S : String} (hS : S ∈ ["NoneType", "bool", "int", "str", "tuple", "list"]) : ∀ Ts : List String, (∀ T ∈ Ts, T ∈ tyTab) → PySem.W.kitAny K (.type S) (Ts.map Value.type) = some (Ts.any (isB S))
  | [], _ => kitAny_nil
  | T :: r, h => by
    have h1 := kit_ty (K := K) (kitB_tab S hS T (h T (by simp)))
    refine kitAny_cons h1 (fun e => ?_) fun e => ?_
    · rw [kit_any hS r fun T hT => h T (List.mem_cons_of_mem _ hT)]
      simp [e]
    · simp [e]
theorem ty_vs {K : PySem.W.Frag} {G : Hp} : ∀ {Ts : List String} {vs : List V}, RpA K G (Ts.map D.ty) vs → vs = Ts.map V.ty
  | [], _, h => by cases h; rfl
  | n :: r, _, h => by
    cases h with
    | cons a b => cases a; rw [ty_vs b]; rfl
theorem ty_cls : ∀ Ts : List String, Paired ClsV (Ts.map V.ty) (Ts.map Value.type)
  | [] => .nil
  | n :: r => .cons (.ty n) (ty_cls r)
theorem ty_vals : ∀ {Ts : List String} {us : List Value}, Vals (Ts.map V.ty) us → us = Ts.map Value.type
  | [], _, h => by cases h; rfl
  | n :: r, _, h => by
    cases h with
    | cons a b => rw [ty_vals b, show _ = Value.type n from a]; rfl
theorem cb_isi : CallB X "isinstance" cIsi := ⟨_, (call_isi.or call_isiT).or call_isiK, fun G M H xs vs Q R m r h k => by
  unfold cIsi at h
  split at h
  · obtain ⟨S, h1, h2, h3⟩ := h
    obtain ⟨v, w, rfl, r1, r2⟩ := rpa2 r
    cases r2
    exact .inl <| .inl ⟨v, _, _, _, _, rfl, .ty _, h1.x m r1, kit_ty (kitB_tab S h1.mem _ h2), k _ _ (.here m (.bl _) h3)⟩
  · obtain ⟨S, Ts, h1, h2, h3, h4⟩ := h
    obtain ⟨v, w, rfl, r1, r2⟩ := rpa2 r
    subst h2
    obtain ⟨a, ws, rfl, p, t⟩ := rp_tp r2
    have e := ty_vs t
    subst e
    have ka := kit_any (K := X.K) h1.mem Ts h3
    rcases p with p | ⟨⟨oc, od, dt, sl⟩, its, n, p1, p2, p3, _, p4⟩
    · exact .inl (.inr ⟨v, a, _, _, _, _, rfl, m.same _ _ p, ty_cls Ts, h1.x m r1, ka, k _ _ (.here m (.bl _) h4)⟩)
    · simp only at p2 p3
      subst p2 p3
      have e2 := ty_vals p4
      refine .inr ⟨v, a, od, Ts.map Value.type, n, sl, _, _, rfl, ?_, h1.x m r1, ka, k _ _ (.here m (.bl _) h4)⟩
      rw [p1, ← e2]
  · exact h.elim⟩
end
end HA
/-! A8: the end: a law's def over the head. -/
namespace HA
open PySem PySem.Spec L2
section
variable {P : Program} {w : World} {K : PySem.W.Frag} {mg mb : Str → Option Value} {k : Nat} {fa a : Addr} {fd : FuncData} {x : Str} {sp : ASp} {s₁ : Shared} {vs : List Value} {ns : List Int}
/-- the law's call where the abstract heap H holds at most the script -/
theorem end_core {H : Hp} (KX : K.In s₁.heap) (hns : s₁.heap.Ns mainGlobals mg) (hb : s₁.heap.Ns builtinsNs mb) (hbb : ∀ x : Str, x ≠ "__name__" → mb x = bootBuiltins x) (hlim : s₁.heap.NoLimit) (hg : s₁.gens = #[])
    (ha : s₁.heap.get? a = some { cls := .type "list", data := .seq vs.toArray }) (hr : Room k callerA)
    (F : ∀ base : Heap, K.In base → base.Ns mainGlobals mg → FA P w K mg base k fa fd [x] sp) (hbind : ∀ (s : Shared) (u : Value), BindsTo s fd ⟨[u], []⟩ [(x, u)])
    (hsp : sp [.frz (ns.map D.int)] (fun _ => none) (fun v _ => v = .bl true) (fun _ _ _ => False))
    (hS : SqL K H a (ns.map V.int)) (ok : HOk P w H s₁.heap) (hA : ∀ b o, H b = some o → b = a ∧ K.lookup a = none ∧ ∃ ob, s₁.heap.get? a = some ob ∧ ∃ u, o = .frz ob u) :
    codeAny (model P w) callerA (.call (.ref fa) ⟨[.ref a], []⟩) (fun r s' => r = .ok (.ret (.bool true)) ∧ OldK s₁.heap s'.heap ∧ s'.os = s₁.os ∧ PyProof.Rows.AllBare s'.gens) s₁ := by
  have free : ∀ b, b ≠ a → H b = none := fun b hb => by
    cases q : H b with
    | none => rfl
    | some u => exact absurd (hA b u q).1 hb
  have dictFree : ∀ {b : Addr} {o : Obj} {es : Array DictEntry} {ep : Nat}, s₁.heap.get? b = some o → o.data = .dict es ep → H b = none := fun {b o es ep} e d => free b fun z => by
    subst z; rw [ha] at e; cases e
    exact absurd (show Data.seq vs.toArray _ = Data.dict es ep from d) (fun z => by cases z)
  have keepNs : ∀ {b : Addr} {m : Str → Option Value}, s₁.heap.Ns b m → (hidT s₁.heap H).Ns b m := fun {b m} ⟨o, es, ep, e, d, r⟩ => ⟨o, es, ep, hidT_get e (dictFree e d), d, r⟩
  have keepK : K.In (hidT s₁.heap H) := fun b o e => hidT_get (KX b o e) (by
    cases q : H b with
    | none => rfl
    | some u => obtain ⟨rfl, h2, _⟩ := hA b u q; rw [h2] at e; cases e)
  have modOk : Mod K mg (hidT s₁.heap H) := ⟨keepK, keepNs hns, ⟨mb, keepNs hb, hbb⟩, hlim.imp fun mc z => ⟨keepNs z.1, z.2⟩⟩
  have env : Env0 P w K mg (hidT s₁.heap H) callerA [] s₁ H := ⟨rfl, modOk, fun b o e => of_hidT e, Nat.le_of_eq (hidT_size _ _), trivial, fun b z => absurd (show b ∈ ([] : List Addr) from z) (by simp), ok, .of_eq hg⟩
  have mem : SM K H (fun _ => none) H := ⟨Same.refl H, fun a c e => by cases e⟩
  refine codeAny_mono ((F _ keepK (keepNs hns)).run callerA [] s₁ H ⟨[.ref a], []⟩ [.ref a] [.ref a] _ H _ _ _ hr rfl env (hbind s₁ (.ref a)) (.cons rfl .nil) mem (.cons (.frz hS (.ints ns)) .nil) hsp) fun r s' h => ?_
  cases r with
  | error e =>
    obtain ⟨_, _, _, _, _, _, _, _, _, _, _, _, z⟩ := h
    obtain ⟨_, _, _, _, _, _, _, _, _, _, _, _, z⟩ := z
    exact z.elim
  | ok fl =>
    cases fl with
    | next => exact h.elim
    | brk => exact h.elim
    | cont => exact h.elim
    | ret u =>
      obtain ⟨v, H', os, bare, un, ok', r', d, M', G', _, _, rd, q⟩ := h
      subst q
      cases rd
      obtain rfl : u = Value.bool true := r'
      refine ⟨rfl, OldK.of_keep fun b o e => ?_, os, bare⟩
      cases q : H b with
      | none => exact un.keep b o e q (fun z => absurd (show b ∈ ([] : List Addr) from z) (by simp)) (by simp)
      | some u =>
        obtain ⟨rfl, _, ob, e0, u', rfl⟩ := hA b u q
        rw [e] at e0
        cases e0
        exact (ok' _ _ (un.frzs _ _ _ q)).1
theorem end_call (KX : K.In s₁.heap) (hns : s₁.heap.Ns mainGlobals mg) (hb : s₁.heap.Ns builtinsNs mb) (hbb : ∀ x : Str, x ≠ "__name__" → mb x = bootBuiltins x) (hlim : s₁.heap.NoLimit) (hg : s₁.gens = #[])
    (ha : s₁.heap.get? a = some { cls := .type "list", data := .seq vs.toArray }) (hi : PyProof.Rows.IntsAre vs ns) (hl : ns.length ≤ sizeLine) (hr : Room k callerA)
    (F : ∀ base : Heap, K.In base → base.Ns mainGlobals mg → FA P w K mg base k fa fd [x] sp) (hbind : ∀ (s : Shared) (u : Value), BindsTo s fd ⟨[u], []⟩ [(x, u)])
    (hsp : sp [.frz (ns.map D.int)] (fun _ => none) (fun v _ => v = .bl true) (fun _ _ _ => False)) :
    codeAny (model P w) callerA (.call (.ref fa) ⟨[.ref a], []⟩) (fun r s' => r = .ok (.ret (.bool true)) ∧ OldK s₁.heap s'.heap ∧ s'.os = s₁.os ∧ PyProof.Rows.AllBare s'.gens) s₁ := by
  have rv := vals_ints hi
  have lenV := hi.length
  cases hk : K.lookup a with
  | some o =>
    have e := KX a o hk
    rw [ha] at e
    cases e
    refine end_core (H := fun _ => none) KX hns hb hbb hlim hg ha hr F hbind hsp (.inr ⟨_, vs.toArray, _, hk, rfl, rfl, rfl, ?_, by simpa using rv⟩) (fun b u z => by cases z) fun b u z => by cases z
    rw [List.size_toArray, lenV]; exact hl
  | none =>
    let ob : Obj := { cls := .type "list", data := .seq vs.toArray }
    refine end_core (H := fun b => if b = a then some (.frz ob (.lst (ns.map V.int))) else none) KX hns hb hbb hlim hg ha hr F hbind hsp (.inl (.inr ⟨ob, if_pos rfl⟩)) (fun b u z => ?_) fun b u z => ?_
    · by_cases hb : b = a
      · subst hb
        have z' := (if_pos rfl).symm.trans z
        cases z'
        exact ⟨ha, by rw [List.length_map]; exact hl, vs, _, rv, ha⟩
      · exact absurd ((if_neg hb).symm.trans z) (fun q => by cases q)
    · by_cases hb : b = a
      · subst hb
        have z' := (if_pos rfl).symm.trans z
        cases z'
        exact ⟨rfl, hk, ob, ha, _, rfl⟩
      · exact absurd ((if_neg hb).symm.trans z) (fun q => by cases q)
end
/-- what a law promises: True, whatever the script -/
def spLaw : ASp := fun ds M Q _ => ∃ ns : List Int, ds = [.frz (ns.map D.int)] ∧ ns.length ≤ 63 ∧ (∀ z ∈ ns, z.natAbs < 2 ^ big) ∧ (∀ a, M a = none) ∧ ∀ M', Q (.bl true) M'
theorem bits_lt {z : Int} (h : Builtin.Int.intBits z ≤ 1048576) : z.natAbs < 2 ^ big := (by exact HA.Wq.get : @HA.Wq (z.natAbs < 2 ^ big) (by
  have e := Nat.lt_log2_self (n := z.natAbs)
  have hb : Builtin.Int.intBits z ≤ big := by unfold big; exact h
  refine Nat.lt_of_lt_of_le (m := 2 ^ Builtin.Int.intBits z) ?_ (Nat.pow_le_pow_right (by decide) hb)
  unfold Builtin.Int.intBits
  by_cases h0 : z = 0
  · subst h0; exact Nat.two_pow_pos _
  · rw [if_neg (by simpa using h0)]; exact e))
theorem walk_A {l : PySem.W.OpenLaw} {k : Nat} {q : Program} {loose : List Str} {XP : (Str → Option Value) → Heap → Prop} {YP : World → Heap → Prop} {d : DefRec} {K : Params → PySem.W.Frag} {x : Str}
    (hn : l.most = some 63) (hdf : d.params.defaults = []) (hr : Room k callerA)
    (hY : ∀ (w : World) (h : Heap), YP w h → (K w.params).In h)
    (F : ∀ (w : World) (mg : Str → Option Value) (fa : Addr) (h : Heap), (K w.params).In h → h.Ns mainGlobals mg → mg d.name = some (.ref fa) →
      ∃ fd : FuncData, (∀ (s : Shared) (u : Value), BindsTo s fd ⟨[u], []⟩ [(x, u)]) ∧ ∀ base : Heap, (K w.params).In base → base.Ns mainGlobals mg → FA l.prog w (K w.params) mg base k fa fd [x] spLaw) :
    PySem.W.WalkO q loose XP YP l.row.toRowW d [] (fun f vs => PySem.call f vs) := by
  refine Att.attach_callB hn hdf fun w s₀ s₁ mg mb fa o pm cd doc a vs ns G Y ho hd hcd hmg hobj hints hlen hbits hgen => ?_
  obtain ⟨fd, hb, hF⟩ := F w mg fa _ (hY w _ Y) G.T.g hmg
  exact end_call (hY w _ Y) G.T.g G.T.b G.T.builtins G.T.nolimit hgen hobj hints (Nat.le_trans hlen (by decide)) hr hF hb ⟨ns, rfl, hlen, fun z hz => bits_lt (hbits z hz), fun _ => rfl, fun _ => rfl⟩
end HA
/-! A9: short names for what a program prints. -/
namespace HA
open PySem PySem.Spec L2
abbrev oAdd : A2 := bAdd
abbrev oSub : A2 := bI0 fun i j => i - j
abbrev oMod : A2 := bI ModOk fun i j => i % j
abbrev oDiv : A2 := bI DivOk fun i j => i / j
abbrev oPow : A2 := bI CPow fun i j => i ^ j.toNat
abbrev oShl : A2 := bI ShlOk fun i j => i * 2 ^ j.toNat
abbrev oShr : A2 := bI ShrOk fun i j => i / 2 ^ j.toNat
abbrev oAnd : A2 := bI0 Builtin.bitAnd
abbrev oOr : A2 := bI0 Builtin.bitOr
abbrev oXor : A2 := bI0 Builtin.bitXor
abbrev oLt : A2 := bC fun i j => decide (i < j)
abbrev oLe : A2 := bC fun i j => decide (i ≤ j)
abbrev oGt : A2 := bC fun i j => decide (j < i)
abbrev oGe : A2 := bC fun i j => decide (j ≤ i)
abbrev oEq : A2 := bEq false
abbrev oNe : A2 := bEq true
abbrev oIs : A2 := bIsN false
abbrev oIsNot : A2 := bIsN true
section
variable {X : Cx} {B : Hp} {W : WX} {a b c e o i tg : Expr} {es rest : List Expr} {ta tb tc te : AE} {tt tu : AT} {tas : AA} {ti : AI} {pos p : Pos}
/-- a product: ints; a tuple or a list and an int -/
@[simp] def bMul : A2 := fun x y M Q => match x, y with
  | .int i, .int j => MulOk i j ∧ Q (.int (i * j)) M
  | _, _ => False
abbrev oMul : A2 := bMul
theorem bMul_ok {K : PySem.W.Frag} : OkR K bMul (rI MulOk fun i j => .int (i * j)) := fun G M H x y xv yv Q R m rx ry h k => by
  match x, y, h with
  | .int i, .int j, h => exact ⟨i, j, rp_int rx, rp_int ry, h.1, k _ _ (.here m (.int _) h.2)⟩
theorem qe_mul (ha : QE X B W a ta) (hb : QE X B W b tb) : QE X B W (.BinOp a .Mult b pos) (aOp bMul ta tb) := qe_op op_mulO bMul_ok ha hb
theorem qe_gint {x : Str} {i : Int} (h : ∃ t, X.mg x = some (.int i t)) (hg : Gl X x := by rfl) (hd : (x == ("__debug__" : Str)) = false := by decide) : QE X B W (.Name x pos) (aC (.int i)) := by
  obtain ⟨t, h⟩ := h
  exact qe_glob (v := .int i) hg h ⟨t, rfl⟩ (fun _ => .int i) hd
theorem qe_gstr {x : Str} {i : Str} (h : ∃ t, X.mg x = some (.str i t)) (hg : Gl X x := by rfl) (hd : (x == ("__debug__" : Str)) = false := by decide) : QE X B W (.Name x pos) (aC (.str i)) := by
  obtain ⟨t, h⟩ := h
  exact qe_glob (v := .str i) hg h ⟨t, rfl⟩ (fun _ => .str i) hd
/-- a list or a tuple walked -/
@[simp] def aWalk (te : AE) : AI := fun σ M Q E => te σ M (fun x M1 => match x with
  | .tup xs => Q xs (fun _ => True) M1
  | x => ∃ xs, LsAt M1 x xs ∧ Q xs (still x xs) M1) E
section
variable {pins : List (Addr × Obj)} {s : Shared} {sc : L2.St} {H : Hp} {ad : Addr} {vs : List V} {R : It → Hp → Prop}
theorem it_list (I : Inv X pins sc H s) (hq : SqL X.K H ad vs) (q : R (Itl X.K ad) H) : wpAny (model X.prog X.w) X.A (pyIter (.ref ad)) (PIE X pins sc tg R) X.xe s := (by exact HA.Wq.get : @HA.Wq (wpAny (model X.prog X.w) X.A (pyIter (.ref ad)) (PIE X pins sc tg R) X.xe s) (by
  obtain ⟨its, rv, pl, hz⟩ := I.list hq
  refine wpAny_pyIter_list pl.isList ⟨s.heap.objs.size, [s.heap.objs.size], _, _, H, rfl, I.kept (t' := s.toks) fun b o e => Heap.get?_push_of_some _ e, turn_list ad _, ⟨_, Heap.get?_push_size _ rfl, rfl, rfl⟩, ?_, q⟩
  intro b hb
  obtain rfl : b = s.heap.objs.size := by simpa using hb
  exact I.fpOk (Nat.le_refl _) (I.hok.fresh (Nat.le_refl _))))
theorem it_tup (I : Inv X pins sc H s) (hq : SqT X.K H ad vs) (q : R (Itt X.K ad) H) : wpAny (model X.prog X.w) X.A (pyIter (.ref ad)) (PIE X pins sc tg R) X.xe s := (by exact HA.Wq.get : @HA.Wq (wpAny (model X.prog X.w) X.A (pyIter (.ref ad)) (PIE X pins sc tg R) X.xe s) (by
  obtain ⟨its, rv, pl, hz⟩ := I.tuple hq
  refine wpAny_pyIter_tuple (show s.heap.IsTuple ad its.toArray from pl) ⟨s.heap.objs.size, [s.heap.objs.size], _, _, H, rfl, I.kept (t' := s.toks) fun b o e => Heap.get?_push_of_some _ e, turn_tuple ad _, ⟨_, Heap.get?_push_size _ rfl, rfl, rfl⟩, ?_, q⟩
  intro b hb
  obtain rfl : b = s.heap.objs.size := by simpa using hb
  exact I.fpOk (Nat.le_refl _) (I.hok.fresh (Nat.le_refl _))))
end
theorem qi_seq (he : QE X B W e te) : QI X B W tg e (aWalk te) := ⟨fun pins s sc H R I ⟨G, σ, M, Q, E, ss, h, k, kx⟩ => by
  refine thn (he.run pins s sc H (Kv X.K G fun x M1 => match x with
    | .tup xs => Q xs (fun _ => True) M1
    | x => ∃ xs, LsAt M1 x xs ∧ Q xs (still x xs) M1) I ⟨G, σ, M, _, E, ss, h, fun v H' kv => kv, kx⟩) fun v s1 ⟨x, H1, I1, r1, d, M1, G1, e1, m1, rd, q⟩ => ?_
  dsimp only at q
  split at q
  · rename_i xs
    obtain ⟨a, vs, rfl, p, t⟩ := rp_tup rd
    cases r1
    refine it_tup I1 (same_sqt m1.same p) (k _ H1 xs _ M1 G1 e1 m1 (itok_tup fun G' M' H' e' m' s' => ?_) q)
    exact ⟨vs, same_sqt m'.same (same_sqt e' p), t.up e'⟩
  · obtain ⟨xs, h1, q⟩ := q
    have ok : ∀ a, x = .ref a → ItOk X.K G1 xs (still d xs) (Itl X.K a) := fun a ea => itok_list fun G' M' H' e' m' s' => by
      have r' := rd.up e'
      match d, h1, s', r' with
      | .lst ys, h1, s', r' => cases h1; cases r' with | lst g t => cases ea; exact ⟨_, .of (m'.same _ _ g), t⟩
      | .frz ys, h1, s', r' => cases h1; cases r' with | frz g t => cases ea; exact ⟨_, m'.same.seq g, t⟩
      | .ref b, h1, s', r' => cases r'; cases ea; obtain ⟨vs, t, eH⟩ := cellL m' s'; exact ⟨vs, .of eH, t⟩
    refine lsAt m1 rd h1 fun a vs ea p t => ?_
    have ok2 := ok a ea
    subst ea
    cases r1
    exact it_list I1 p (k _ H1 xs _ M1 G1 e1 m1 ok2 q)⟩
end
theorem bB_len : bootBuiltins "len" = some (.builtin "len") := by decide +kernel
theorem bB_abs : bootBuiltins "abs" = some (.builtin "abs") := by decide +kernel
theorem bB_max : bootBuiltins "max" = some (.builtin "max") := by decide +kernel
theorem bB_min : bootBuiltins "min" = some (.builtin "min") := by decide +kernel
theorem bB_repr : bootBuiltins "repr" = some (.builtin "repr") := by decide +kernel
theorem bB_isinstance : bootBuiltins "isinstance" = some (.builtin "isinstance") := by decide +kernel
theorem bB_sum : bootBuiltins "sum" = some (.builtin "sum") := by decide +kernel
theorem bB_sorted : bootBuiltins "sorted" = some (.builtin "sorted") := by decide +kernel
theorem bB_all : bootBuiltins "all" = some (.builtin "all") := by decide +kernel
theorem bB_any : bootBuiltins "any" = some (.builtin "any") := by decide +kernel
theorem bT_int : bootBuiltins "int" = some (.type "int") := by decide +kernel
theorem bT_bool : bootBuiltins "bool" = some (.type "bool") := by decide +kernel
theorem bT_str : bootBuiltins "str" = some (.type "str") := by decide +kernel
theorem bT_tuple : bootBuiltins "tuple" = some (.type "tuple") := by decide +kernel
theorem bT_list : bootBuiltins "list" = some (.type "list") := by decide +kernel
end HA
/-! A10: t[::-1] of a tuple; observing no memory; freezing; drawn deals; loops. -/
namespace HA
open PySem PySem.Spec PyProof.Rows L2

/-! ### t[::-1] -/
theorem rev_places (n : Nat) : Builtin.Slice.slicePlaces ((n : Int) - 1) (-1) (-1) = n := (by exact HA.Wq.get : @HA.Wq (Builtin.Slice.slicePlaces ((n : Int) - 1) (-1) (-1) = n) (by
  unfold Builtin.Slice.slicePlaces
  rw [if_neg (by decide)]
  by_cases h : n = 0
  · subst h; rfl
  · rw [if_pos (by omega)]
    have e : (n : Int) - 1 - -1 - 1 = (n : Int) - 1 := by omega
    have e2 : (- -1 : Int) = 1 := by decide
    rw [e, e2, Int.ediv_one]
    omega))
theorem rev_items (its : List Value) : ((List.range its.length).filterMap fun (k : Nat) => its.toArray[(((its.length : Int) - 1) + (k : Int) * -1).toNat]?) = its.reverse := (by exact HA.Wq.get : @HA.Wq (((List.range its.length).filterMap fun (k : Nat) => its.toArray[(((its.length : Int) - 1) + (k : Int) * -1).toNat]?) = its.reverse) (by
  apply List.ext_getElem?
  intro i
  have key : ∀ m, m ≤ its.length → ((List.range m).filterMap fun (k : Nat) => its.toArray[(((its.length : Int) - 1) + (k : Int) * -1).toNat]?) = its.reverse.take m := by
    intro m
    induction m with
    | zero => intro _; rfl
    | succ m ih =>
      intro hm
      rw [List.range_succ, List.filterMap_append, ih (by omega), List.take_succ]
      congr 1
      have e : (((its.length : Int) - 1) + (m : Int) * -1).toNat = its.length - 1 - m := by omega
      simp only [List.filterMap_cons, List.filterMap_nil, e]
      have h1 : its.reverse[m]? = its[its.length - 1 - m]? := List.getElem?_reverse (by omega)
      rw [h1]
      have h2 : its.toArray[its.length - 1 - m]? = its[its.length - 1 - m]? := by simp
      rw [h2]
      cases its[its.length - 1 - m]? <;> rfl
  rw [key its.length (Nat.le_refl _), List.take_of_length_le (by simp)]))
section
variable {prog : Program} {w : World} {A : Around} {E : Value → Shared → Prop} {s : Shared}
theorem tuple_rev_item {t sl : Addr} {its : List Value} {tk : Tok} {Q : Value → Shared → Prop} (ht : IsTup s.heap t its.toArray) (hs : s.heap.IsSliceOf sl .none .none (.int (-1) tk)) (hz : its.length ≤ sizeLine)
    (h : Q (.ref s.heap.objs.size) { s with heap := s.heap.push { cls := .type "tuple", data := .seq its.reverse.toArray } }) : wpAny (model prog w) A (getItem (.ref t) (.ref sl)) Q E s := by
  have big : sizeOk (.seq its.reverse.toArray) := by
    show its.reverse.toArray.size ≤ sizeLine
    rw [List.size_toArray, List.length_reverse]; exact hz
  have ty : s.TypeIs (.ref sl) "slice" := let ⟨o, a, b, _⟩ := hs; ⟨o, a, b⟩
  obtain ⟨os, hos, _, hds⟩ := hs
  unfold getItem
  try with_reducible refine wpAny_holding ?_
  first | refine wpAny_bind (wpAny_pure ?_) | skip
  refine wpAny_bind (wpAny_sequenceKey ht.typeIs (by decide) ?_)
  refine wpAny_bind (wpAny_callSpecial?_slot (name := Str.ofString "__getitem__") ht.typeIs slot_tuple_getitem (wpAny_call_entry slot_tuple_getitem ht.typeIs entry_tuple_getitem ?_ (args_tuple_getitem _ _)))
  show wpAny _ _ (Builtin.Tuple.tupleItemsOf (.ref t) >>= _) _ _ s
  refine wpAny_bind (tupleItemsOf_ ht (wpAny_bind (wpAny_typeOf ty ?_)))
  rw [if_pos (by decide)]
  refine wpAny_bind ?_
  unfold Builtin.Slice.sliceApplied Builtin.Slice.sliceFields
  refine wpAny_bind (wpAny_bind (wpAny_field hos hds (x := .none) rfl (wpAny_bind (wpAny_field hos hds (x := .none) rfl (wpAny_bind (wpAny_field hos hds (x := .int (-1) tk) rfl (wpAny_pure ?_)))))))
  refine wpAny_bind (HT.slicePart_ (.int (-1) tk) ?_)
  show wpAny _ _ (if ((-1 : Int) == 0) = true then _ else _) _ _ s
  rw [if_neg (by decide)]
  refine wpAny_bind (HT.slicePart_ .none (wpAny_bind (HT.slicePart_ .none (wpAny_bind (wpAny_pure ?_)))))
  have ea : Builtin.Slice.sliceAdjust none none (-1) ((its.toArray.size : Nat) : Int) = ((its.length : Int) - 1, -1) := by
    unfold Builtin.Slice.sliceAdjust
    simp
  show wpAny _ _ (match Builtin.Slice.sliceAdjust none none (-1) ((its.toArray.size : Nat) : Int) with | (lo, hi) => pure (lo, (-1 : Int), Builtin.Slice.slicePlaces lo hi (-1))) _ _ s
  rw [ea]
  show wpAny _ _ (pure ((its.length : Int) - 1, (-1 : Int), Builtin.Slice.slicePlaces ((its.length : Int) - 1) (-1) (-1))) _ _ s
  rw [rev_places]
  refine wpAny_pure ?_
  have hno : ¬ ((((its.length : Int) - 1) == 0 && (-1 : Int) == 1 && its.length == its.toArray.size) = true) := by
    have : ((-1 : Int) == 1) = false := by decide
    rw [this, Bool.and_false, Bool.false_and]
    exact Bool.false_ne_true
  show wpAny _ _ (if ((((its.length : Int) - 1) == 0 && (-1 : Int) == 1 && its.length == its.toArray.size) = true) then _ else _) _ _ s
  rw [if_neg hno, rev_items]
  first
    | exact wpAny_bind (m := Builtin.Tuple.tupleExact _) (wpAny_newObj_type (wpAny_pure ⟨_, rfl, wpAny_pure h⟩) big)
    | exact wpAny_bind (m := Builtin.Tuple.tupleExact _) (wpAny_newObj_type (wpAny_bind (wpAny_pure (wpAny_pure ⟨_, rfl, wpAny_pure h⟩))) big)
    | exact wpAny_bind (wpAny_bind (m := Builtin.Tuple.tupleExact _) (wpAny_newObj_type (wpAny_pure (wpAny_pure ⟨_, rfl, wpAny_pure h⟩)) big))
    | exact wpAny_bind (wpAny_bind (m := Builtin.Tuple.tupleExact _) (wpAny_newObj_type (wpAny_pure ⟨_, rfl, wpAny_pure h⟩) big))
end

section
variable {X : Cx} {B : Hp} {W : WX} {e : Expr} {te : AE} {pos : Pos}
/-- x[::-1] of a tuple or a list -/
@[simp] def aRev (te : AE) : AE := fun σ M Q E => te σ M (fun x M1 => match x with
  | .tup xs => Q (.tup xs.reverse) M1
  | x => ∃ xs, LsAt M1 x xs ∧ ∀ p, M1 p = none → Q (.ref p) (mset M1 p (.lst xs.reverse))) E
def tRevT (K : PySem.W.Frag) (te : TE) : TE := fun σ H Q => te σ H fun x H1 => ∃ a xs, x = .ref a ∧ SqT K H1 a xs ∧ ∀ p, H1 p = none → Q (.ref p) (upd H1 p (.tup xs.reverse))
theorem pe_revB {e : Expr} {te : TE} {k : Nat} {p1 p2 p3 pos : Pos} (he : PE X e te) : PE X (.Subscript e (.Slice none none (some (.UnaryOp .USub (.Constant (.int 1) k p1) p2)) p3) pos)
    (fun σ H Q => te σ H fun x H1 => (∃ a xs, x = .ref a ∧ SqT X.K H1 a xs ∧ ∀ p, H1 p = none → Q (.ref p) (upd H1 p (.tup xs.reverse))) ∨ ∃ a xs, x = .ref a ∧ SqL X.K H1 a xs ∧ ∀ p, H1 p = none → Q (.ref p) (upd H1 p (.lst xs.reverse))) := (by exact HA.Wq.get : @HA.Wq (PE X (.Subscript e (.Slice none none (some (.UnaryOp .USub (.Constant (.int 1) k p1) p2)) p3) pos) (fun σ H Q => te σ H fun x H1 => (∃ a xs, x = .ref a ∧ SqT X.K H1 a xs ∧ ∀ p, H1 p = none → Q (.ref p) (upd H1 p (.tup xs.reverse))) ∨ ∃ a xs, x = .ref a ∧ SqL X.K H1 a xs ∧ ∀ p, H1 p = none → Q (.ref p) (upd H1 p (.lst xs.reverse)))) (by
  refine ⟨fun pins s σ H Q I h => ?_⟩
  refine Subscript_ (thn (he.run pins s σ H _ I h) fun v s1 ⟨x, H1, I1, r1, q1⟩ => ?_)
  have hst : PO X (some (.UnaryOp .USub (.Constant (.int 1) k p1) p2)) (tPart (tUn (rU fun i => .int (-i)) (tC (.int 1)))) := po_some (pe_un un_neg pe_int)
  refine wpAny_Slice (thn (po_none.run pins s1 σ H1 (fun o H2 => o = none ∧ H2 = H1) I1 ⟨rfl, rfl⟩) fun vl s2 ⟨l, H2, I2, pl, el, e2⟩ => ?_)
  subst el e2
  refine thn (po_none.run pins s2 σ H2 (fun o H3 => o = none ∧ H3 = H2) I2 ⟨rfl, rfl⟩) fun vu s3 ⟨u, H3, I3, pu, eu, e3⟩ => ?_
  subst eu e3
  refine thn (hst.run pins s3 σ H3 (fun o H4 => o = some (-1) ∧ H4 = H3) I3 ⟨1, rfl, -1, rfl, rfl, rfl⟩) fun vs s4 ⟨o, H4, I4, ps, eo, e4⟩ => ?_
  subst eo e4
  have I5 : Inv X pins σ H4 { s4 with heap := s4.heap.push { cls := .type "slice", data := .fields #[vl, vu, vs] } } := I4.kept (t' := s4.toks) fun b ob q => Heap.get?_push_of_some _ q
  show wpAny (model X.prog X.w) X.A (subscriptTail e (.Slice none none (some (.UnaryOp .USub (.Constant (.int 1) k p1) p2)) p3) v (.ref s4.heap.objs.size)) (EP X pins σ Q) X.xe { s4 with heap := s4.heap.push { cls := .type "slice", data := .fields #[vl, vu, vs] } }
  rcases q1 with ⟨a, xs, ex, hx, q⟩ | ⟨a, xs, ex, hx, q⟩
  · subst ex
    cases r1
    obtain ⟨its, r, ht, hz⟩ := I5.tuple hx
    have hl := r.length
    refine tail_any (ops := [.ref a, .ref s4.heap.objs.size]) ht.typeIs slot_tuple_getitem.lookup ?_ (by with_unfolding_all rfl)
    cases pl
    cases pu
    cases ps with
    | int _ tk =>
      refine tuple_rev_item ht (Heap.IsSliceOf.new ..) (by omega) ?_
      exact ⟨.ref _, _, I5.laid (t' := s4.toks) (o := .tup xs.reverse) (fun b ob q => Heap.get?_push_of_some _ q) (Nat.le_refl _) ⟨by rw [List.length_reverse]; exact hz, _, r.reverse, IsTup.new _ _⟩, rfl, q _ (I5.hok.fresh (Nat.le_refl _))⟩
  · subst ex
    cases r1
    obtain ⟨its, r, ht, hz⟩ := I5.list hx
    have hl := r.length
    refine tail_any (ops := [.ref a, .ref s4.heap.objs.size]) ht.isList.typeIs (PySem.slot_list_getitem.lookup) ?_ (by with_unfolding_all rfl)
    refine wpAny_getItem_list_slice ht.isList (Heap.IsSliceOf.new _ vl vu vs) pl pu ps (by decide) ?_ (by rw [List.size_toArray]; omega)
    rw [PySem.W.krv_pick]
    exact ⟨.ref _, _, I5.laid (t' := s4.toks) (o := .lst xs.reverse) (fun b ob q => Heap.get?_push_of_some _ q) (Nat.le_refl _) ⟨by rw [List.length_reverse]; exact hz, _, 0, r.reverse, Heap.get?_push_size _ rfl⟩, rfl, q _ (I5.hok.fresh (Nat.le_refl _))⟩))
theorem qe_rev {j : Nat} {p1 q1 p3 : Pos} (he : QE X B W e te) : QE X B W (.Subscript e (.Slice none none (some (.UnaryOp .USub (.Constant (.int 1) j p1) q1)) p3) pos) (aRev te) :=
  pe_imp (pe_revB he) fun s H R ⟨G, σ, M, Q, E, ss, h, k, kx⟩ => ⟨G, σ, M, _, E, ss, h, fun v H1 ⟨x, M1, G1, e1, m1, r1, q⟩ => by
    dsimp only at q
    split at q
    · obtain ⟨a, vs, rfl, p, t⟩ := rp_tup r1
      exact .inl ⟨a, vs, rfl, same_sqt m1.same p, fun p hp => Kv.tup m1 (fun v H' kv => k v H' (kv.lift e1)) t.reverse hp q⟩
    · obtain ⟨xs, h1, h2⟩ := q
      refine lsAt m1 r1 h1 fun a vs e p t => ?_
      exact .inr ⟨a, vs, e, p, fun p hp => Kv.lst m1 (fun v H' kv => k v H' (kv.lift e1)) t.reverse hp h2⟩, kx⟩
end

/-! ### freezing -/
mutual
/-- d, its lists among fs frozen, is d' -/
inductive Fz (M : Mem) (fs : List Addr) : D → D → Prop
  | same (d : D) : Fz M fs d d
  | tup {xs ys : List D} : FzA M fs xs ys → Fz M fs (.tup xs) (.tup ys)
  | lst {p : Addr} {xs ys : List D} : p ∈ fs → M p = some (.lst xs) → FzA M fs xs ys → Fz M fs (.ref p) (.lst ys)
inductive FzA (M : Mem) (fs : List Addr) : List D → List D → Prop
  | nil : FzA M fs [] []
  | cons {d d' : D} {xs ys : List D} : Fz M fs d d' → FzA M fs xs ys → FzA M fs (d :: xs) (d' :: ys)
end
theorem FzA.same {M : Mem} {fs : List Addr} : ∀ xs : List D, FzA M fs xs xs
  | [] => .nil
  | x :: r => .cons (.same x) (FzA.same r)
section
variable {K : PySem.W.Frag} {G G2 H : Hp} {M M2 : Mem} {fs : List Addr}
mutual
theorem Fz.rp (m : SM K G M H) (e : Same G G2) (hf : ∀ p ∈ fs, G2 p = H p) : ∀ {d d' : D} {v : V}, Fz M fs d d' → Rp K G d v → Rp K G2 d' v
  | _, _, _, .same d, r => r.up e
  | _, _, _, .tup t, .tup h k => .tup (h.up e) (FzA.rp m e hf t k)
  | _, _, _, .lst hp h t, r => by
    cases r
    obtain ⟨vs, k, eH⟩ := cellL m h
    exact .lst ((hf _ hp).trans eH) (FzA.rp m e hf t k)
theorem FzA.rp (m : SM K G M H) (e : Same G G2) (hf : ∀ p ∈ fs, G2 p = H p) : ∀ {d d' : List D} {v : List V}, FzA M fs d d' → RpA K G d v → RpA K G2 d' v
  | _, _, _, .nil, r => by cases r; exact .nil
  | _, _, _, .cons a b, r => by cases r with | cons r1 r2 => exact .cons (Fz.rp m e hf a r1) (FzA.rp m e hf b r2)
end
open Classical in
theorem SM.freeze (m : SM K G M H) (hl : MLe M2 M) (hn : ∀ p ∈ fs, M2 p = none) : ∃ G2, Same G G2 ∧ SM K G2 M2 H ∧ ∀ p ∈ fs, G2 p = H p := (by exact HA.Wq.get : @HA.Wq (∃ G2, Same G G2 ∧ SM K G2 M2 H ∧ ∀ p ∈ fs, G2 p = H p) (by
  refine ⟨fun b => if b ∈ fs then H b else G b, fun b u e => ?_, ⟨fun b u e => ?_, fun a c e => ?_⟩, fun p hp => if_pos hp⟩
  · show (if b ∈ fs then H b else G b) = some u
    by_cases h : b ∈ fs
    · rw [if_pos h]; exact m.same _ _ e
    · rw [if_neg h]; exact e
  · have e' : (if b ∈ fs then H b else G b) = some u := e
    by_cases h : b ∈ fs
    · rw [if_pos h] at e'; exact e'
    · rw [if_neg h] at e'; exact m.same _ _ e'
  · have ha : a ∉ fs := fun z => by rw [hn a z] at e; cases e
    obtain ⟨h1, h2⟩ := m.cell a c (hl a c e)
    refine ⟨(if_neg ha).trans h1, h2.up (fun b u e => ?_) rfl⟩
    show (if b ∈ fs then H b else G b) = some u
    by_cases h : b ∈ fs
    · rw [if_pos h]; exact m.same _ _ e
    · rw [if_neg h]; exact e))
/-- d in M' may be told as d' in M -/
def Gh (M : Mem) (d : D) (M' : Mem) (d' : D) : Prop := ∃ fs, Fz M' fs d d' ∧ MLe M M' ∧ ∀ p ∈ fs, M p = none
theorem Gh.refl (M : Mem) (d : D) : Gh M d M d := ⟨[], .same d, .refl M, fun _ h => nomatch h⟩
theorem Gh.drop {M M' : Mem} (h : MLe M M') (d : D) : Gh M d M' d := ⟨[], .same d, h, fun _ h => nomatch h⟩
theorem Gh.lst {M M' : Mem} {p : Addr} {xs : List D} (h : MLe M M') (hp : M p = none) (e : M' p = some (.lst xs)) : Gh M (.ref p) M' (.lst xs) :=
  ⟨[p], .lst (by simp) e (FzA.same xs), h, fun q hq => by rw [List.mem_singleton] at hq; subst hq; exact hp⟩
theorem Kv.gh {Q : DK} {v : V} (h : Kv K G (fun d M' => ∃ d' M2, Gh M2 d M' d' ∧ Q d' M2) v H) : Kv K G Q v H := by
  obtain ⟨d, M', G', e, m, r, d', M2, ⟨fs, fz, hl, hn⟩, q⟩ := h
  obtain ⟨G2, e2, m2, hf⟩ := m.freeze hl hn
  exact ⟨d', M2, G2, e.trans e2, m2, fz.rp m e2 hf r, q⟩
end
section
variable {X : Cx} {B : Hp} {W : WX} {e : Expr} {te : AE} {tt : AT} {pos : Pos}
/-- an expression that leaves the memory as it was, its value told frozen -/
@[simp] def aFz (te : AE) : AE := fun σ M Q E => te σ M (fun d M' => ∃ d', Gh M d M' d' ∧ Q d' M) E
theorem qe_fz (h : QE X B W e te) : QE X B W e (aFz te) := pe_imp h fun s H R ⟨G, σ, M, Q, E, ss, h, k, kx⟩ => ⟨G, σ, M, _, E, ss, h, fun v H1 kv => k v H1 (by
  obtain ⟨d, M', G', e, m, r, d', hg, q⟩ := kv
  exact Kv.gh ⟨d, M', G', e, m, r, d', M, hg, q⟩), kx⟩
@[simp] def aFzT (tt : AT) : AT := fun σ M Q E => tt σ M (fun b M' => MLe M M' ∧ Q b M) E
theorem qt_fz (h : QT X B W e tt) : QT X B W e (aFzT tt) := pt_imp h fun s H R ⟨G, σ, M, Q, E, ss, h, k, kx⟩ => ⟨G, σ, M, _, E, ss, h, fun b H1 M1 G1 e m ⟨l, q⟩ => k b H1 M G1 e (m.drop l) q, kx⟩
end
end HA
/-! A11: frozen displays, sums, slices, comprehensions; a def's exits; drawn deals. -/
namespace HA
open PySem PySem.Spec L2
section
variable {K : PySem.W.Frag} {G H : Hp} {M : Mem}
/-- a new list that nothing changes -/
theorem Kv.lstF {Q : DK} {R : VK} {p : Addr} {xs : List D} {vs : List V} (m : SM K G M H) (k : ∀ v H', Kv K G Q v H' → R v H') (r : RpA K G xs vs) (hp : H p = none) (q : Q (.lst xs) M) : R (.ref p) (upd H p (.lst vs)) := by
  have g0 := (m.free hp).1
  exact k _ _ ⟨.lst xs, M, _, same_upd g0, m.frozen hp, .lst upd_same (r.up (same_upd g0)), q⟩
end
section
variable {X : Cx} {B : Hp} {W : WX} {a b c e o i tg : Expr} {es rest : List Expr} {ta tb tc te : AE} {tt tu : AT} {tas : AA} {ti : AI} {tl th : AO} {lo hi : Option Expr} {pos p2 p : Pos}
@[simp] def aLstF (t : AA) : AE := fun σ M Q E => t σ M (fun xs M1 => xs.length ≤ sizeLine ∧ Q (.lst xs) M1) E
theorem qe_lstF (h : QA X B W es tas) : QE X B W (.List es pos) (aLstF tas) :=
  pe_imp (pe_lst h) fun s H R ⟨G, σ, M, Q, E, ss, h, k, kx⟩ => ⟨G, σ, M, _, E, ss, h, fun vs H1 ds M1 G1 e m r q => ⟨by rw [← r.len]; exact q.1, fun p hp => Kv.lstF m (fun v H' kv => k v H' (kv.lift e)) r hp q.2⟩, kx⟩
/-- +, a sum of lists frozen -/
@[simp] def bAddF : A2 := fun x y M Q => match x, y with
  | .int i, .int j => Q (.int (i + j)) M
  | .str i, .str j => i.length + j.length ≤ sizeLine ∧ Q (.str (i ++ j)) M
  | .tup xs, .tup ys => xs.length + ys.length ≤ sizeLine ∧ Q (.tup (xs ++ ys)) M
  | x, y => ∃ xs ys, LstAt M x xs ∧ LstAt M y ys ∧ xs.length + ys.length ≤ sizeLine ∧ Q (.lst (xs ++ ys)) M
theorem bAddF_ok {K : PySem.W.Frag} : OkR K bAddF (rAddA K) := fun G M H x y xv yv Q R m rx ry h k => by
  unfold bAddF at h
  split at h
  · cases rx; cases ry
    exact .inl (.inl ⟨_, _, rfl, rfl, k _ _ (.here m (.int _) h)⟩)
  · cases rx; cases ry
    exact .inl (.inr ⟨_, _, rfl, rfl, h.1, k _ _ (.here m (.str _) h.2)⟩)
  · exact bAdd_ok G M H _ _ xv yv Q R m rx ry h k
  · obtain ⟨xs, ys, h1, h2, hz, q⟩ := h
    refine lstAt m rx h1 fun a vs e1 p1 r1 => lstAt m ry h2 fun b ws e2 p2 r2 => ?_
    exact .inr (.inr ⟨a, b, vs, ws, e1, e2, p1, p2, by rw [← r1.len, ← r2.len]; exact hz, fun p hp => Kv.lstF m k (r1.app r2) hp q⟩)
theorem qe_addF (ha : QE X B W a ta) (hb : QE X B W b tb) : QE X B W (.BinOp a .Add b pos) (aOp bAddF ta tb) := qe_op op_addA bAddF_ok ha hb
@[simp] def sSlF (x : D) (lo hi : Option Int) (M : Mem) (Q : DK) : Prop := match x with
  | .tup xs => Q (.tup (cut xs lo hi)) M
  | .str z => z.length ≤ sizeLine ∧ Q (.str (cutS z lo hi)) M
  | x => ∃ xs, LsAt M x xs ∧ Q (.lst (cut xs lo hi)) M
@[simp] def aSlF (te : AE) (tl th : AO) : AE := fun σ M Q E => te σ M (fun x M1 => tl σ M1 (fun l M2 => th σ M2 (fun u M3 => sSlF x l u M3 Q) E) E) E
theorem sSlF_ok {K : PySem.W.Frag} {G H : Hp} {M : Mem} {x : D} {v : V} {l h : Option Int} {Q : DK} {R : VK} (m : SM K G M H) (r : Rp K G x v) (q : sSlF x l h M Q) (k : ∀ v H', Kv K G Q v H' → R v H') : rSlAll K v l h H R := (by exact HA.Wq.get : @HA.Wq (rSlAll K v l h H R) (by
  unfold sSlF at q
  split at q
  · exact sSl_ok (x := .tup _) m r q k
  · exact sSl_ok (x := .str _) m r q k
  · obtain ⟨xs, h1, h2⟩ := q
    refine lsAt m r h1 fun a vs e p t => ?_
    exact .inr ⟨a, vs, e, p, fun p hp => Kv.lstF m k (cut_rp t l h) hp h2⟩))
theorem qe_sliceF (he : QE X B W e te) (hl : QO X B W lo tl) (hu : QO X B W hi th) : QE X B W (.Subscript e (.Slice lo hi none p2) pos) (aSlF te tl th) :=
  pe_imp (pe_slice sl_all he hl hu) fun s H R ⟨G, σ, M, Q, E, ss, h, k, kx⟩ => by
    refine ⟨G, σ, M, _, E, ss, h, fun v H1 ⟨x, M1, G1, e1, m1, r1, q1⟩ => ?_, kx⟩
    refine ⟨G1, σ, M1, _, E, ss.with e1 m1, q1, fun l H2 M2 G2 e2 m2 q2 => ?_, kx⟩
    refine ⟨G2, σ, M2, _, E, (ss.with e1 m1).with e2 m2, q2, fun u H3 M3 G3 e3 m3 q3 => ?_, kx⟩
    exact sSlF_ok m3 ((r1.up e2).up e3) q3 fun v H' kv => k v H' (kv.lift (e1.trans (e2.trans e3)))
@[simp] def aRevF (te : AE) : AE := fun σ M Q E => te σ M (fun x M1 => match x with
  | .tup xs => Q (.tup xs.reverse) M1
  | x => ∃ xs, LsAt M1 x xs ∧ Q (.lst xs.reverse) M1) E
theorem qe_revF {j : Nat} {p1 q1 p3 : Pos} (he : QE X B W e te) : QE X B W (.Subscript e (.Slice none none (some (.UnaryOp .USub (.Constant (.int 1) j p1) q1)) p3) pos) (aRevF te) :=
  pe_imp (pe_revB he) fun s H R ⟨G, σ, M, Q, E, ss, h, k, kx⟩ => ⟨G, σ, M, _, E, ss, h, fun v H1 ⟨x, M1, G1, e1, m1, r1, q⟩ => by
    dsimp only at q
    split at q
    · obtain ⟨a, vs, rfl, p, t⟩ := rp_tup r1
      exact .inl ⟨a, vs, rfl, same_sqt m1.same p, fun p hp => Kv.tup m1 (fun v H' kv => k v H' (kv.lift e1)) t.reverse hp q⟩
    · obtain ⟨xs, h1, h2⟩ := q
      refine lsAt m1 r1 h1 fun a vs e p t => ?_
      exact .inr ⟨a, vs, e, p, fun p hp => Kv.lstF m1 (fun v H' kv => k v H' (kv.lift e1)) t.reverse hp h2⟩, kx⟩
@[simp] def cListF : AC := fun xs M Q => match xs with
  | [.tup ys] => Q (.lst ys) M
  | [x] => ∃ ys, LsAt M x ys ∧ Q (.lst ys) M
  | _ => False
theorem ct_listF : CallT X "list" cListF := ⟨_, call_list_of, fun G M H xs vs Q R m r h k => by
  unfold cListF at h
  split at h
  · obtain ⟨v, rfl, rv⟩ := rpa1 r
    obtain ⟨a, ws, rfl, p, t⟩ := rp_tup rv
    exact ⟨a, ws, rfl, .inr (same_sqt m.same p), fun l hl => Kv.lstF m k t hl h⟩
  · obtain ⟨v, rfl, rv⟩ := rpa1 r
    obtain ⟨ys, h1, h2⟩ := h
    refine lsAt m rv h1 fun a ws e p t => ?_
    subst e
    exact ⟨a, ws, rfl, .inl p, fun l hl => Kv.lstF m k t hl h2⟩
  · exact h.elim⟩

/-! ### comprehensions, frozen -/
def aLcF (ti : AI) (g : AG) (tt : AT) (te : AE) (vs : List Nat) : AE := fun σ M Q E => ti σ M (fun xs st M1 => (∀ M', MLe M1 M' → st M') ∧ xs.length ≤ sizeLine ∧ ∃ R : Nat → List D → Prop, R 0 [] ∧
  (∀ i x acc M', xs[i]? = some x → acc.length ≤ i → R i acc → MLe M1 M' → g x (wipeA σ vs) M' (fun σ2 M2 => tt σ2 M2 (fun b M3 =>
    (b = true → te σ2 M3 (fun y M4 => M4 = M' ∧ R (i + 1) (acc ++ [y])) EF) ∧ (b = false → M3 = M' ∧ R (i + 1) acc)) EF) EF) ∧ ∀ acc, R xs.length acc → Q (.lst acc) M1) E
theorem lift_lcF {K : PySem.W.Frag} {g : AG} {vs ws : List Nat} (hv : ∀ j, j ∈ ws → j ∈ vs) {s : L2.St} {H : Hp} {R : VK} (h : LE K B W (aLcF ti g tt te vs) s H R) : tLc (LI K B W ti) (LG K B W0 ws g) (LT K B W0 tt) (LE K B W0 te) vs s H R := (by exact HA.Wq.get : @HA.Wq (tLc (LI K B W ti) (LG K B W0 ws g) (LT K B W0 tt) (LE K B W0 te) vs s H R) (by
  obtain ⟨G, σ, M, Q, E, ss, h, k, kx⟩ := h
  refine ⟨G, σ, M, _, E, ss, h, fun J H1 xs stl M1 G1 e1 m1 ok q p hp => ?_, kx⟩
  obtain ⟨hst, hz, Rv, v0, turn, fin⟩ := q
  obtain ⟨g0, f0⟩ := m1.free hp
  have k0 : ∀ c d s' H', Wx K B EF c d s' H' → W0 c d s' H' := fun c d s' H' ⟨_, _, _, _, _, _, _, _, _, _, _, _, z⟩ => z
  refine ⟨fun i m H => m = xs.length - i ∧ i ≤ xs.length ∧ ∃ G' acc, acc.length ≤ i ∧ Same G1 G' ∧ SM K G' (mset M1 p (.lst acc)) H ∧ Rv i acc, ⟨xs.length, rfl, Nat.zero_le _, G1, [], Nat.le_refl _, Same.refl _, m1.new (c := .lst []) hp ⟨[], .nil, upd_same⟩, v0⟩, ?_⟩
  rintro i m H2 ⟨rfl, hi, G2, acc, la, e2, m2, v2⟩
  have hM : MLe M1 (mset M1 p (.lst acc)) := .new f0
  by_cases hlt : i < xs.length
  · obtain ⟨x, hx⟩ := get_lt hlt
    have q2 := turn i x acc _ hx la v2 hM
    refine .inr ⟨ok.go i G2 _ H2 hlt e2 m2 (hst _ hM), fun H3 => ∃ G' acc, acc.length ≤ i + 1 ∧ Same G1 G' ∧ SM K G' (mset M1 p (.lst acc)) H3 ∧ Rv (i + 1) acc, fun H3 ⟨G3, acc, la, e3, m3, v3⟩ => ⟨xs.length - (i + 1), by omega, rfl, hlt, G3, acc, la, e3, m3, v3⟩, fun y H3 hy => ?_⟩
    obtain ⟨d, G3, hd, e3, m3, r3⟩ := ok.yld i G2 _ H2 y H3 hlt e2 m2 (hst _ hM) hy
    rw [hx] at hd
    cases hd
    have e13 := e2.trans e3
    refine ⟨G3, wipeA σ vs, _, x, _, EF, (ss.with (e1.trans e13) m3).wipe vs, r3, q2, fun s4 H4 σ4 M4 G4 e4 ss4 kp q4 => ⟨?_, G4, σ4, M4, _, EF, ss4, q4, fun b H5 M5 G5 e5 m5 q5 => ?_, k0⟩, k0⟩
    · have w2 : L2.wipe (L2.wipe s vs) vs = L2.wipe s vs := wipe_cong (wipe_length _ _) fun j hj => wipe_get hj
      rw [← w2]
      refine wipe_cong kp.1 fun j hj => kp.2 j fun z => hj (hv j z)
    · have e45 := e4.trans e5
      cases b with
      | true =>
        refine iteT ⟨G5, σ4, M5, _, EF, ss4.with e5 m5, q5.1 rfl, fun yv H6 ⟨yd, M6, G6, e6, m6, r6, eM, v6⟩ => ?_, k0⟩
        subst eM
        obtain ⟨ws, t, eH⟩ := cellL m6 (p := p) (xs := acc) mset_same
        have mw := m6.write (a := p) (c := .lst (acc ++ [yd])) (c' := .lst acc) mset_same ⟨_, t.app (.cons r6 .nil), upd_same⟩
        rw [mset_mset] at mw
        exact ⟨ws, eH, by rw [← t.len]; omega, G6, acc ++ [yd], by simp; omega, e13.trans (e45.trans e6), mw, v6⟩
      | false =>
        obtain ⟨eM, v5⟩ := q5.2 rfl
        subst eM
        exact iteF ⟨G5, acc, by omega, e13.trans e45, m5, v5⟩
  · have : i = xs.length := by omega
    subst this
    refine .inl ⟨ok.stop _ G2 _ H2 (Nat.le_refl _) e2 m2 (hst _ hM), k _ _ ?_⟩
    refine Kv.gh ⟨.ref p, _, G2, e1.trans e2, m2, .ref p, .lst acc, M1, .lst hM f0 mset_same, fin acc v2⟩))
theorem qe_lcF {elt iter : Expr} {ifs : List Expr} {scope : Scope} {own : List (Str × Nat)} {ws : List Nat} {g : AG} (hc : X.calm = true) (hN : X.N.Nodup) (hi : QI X B W tg iter ti) (ok : BlkOk X.N X.env.scope scope own) (hv : ∀ j, j ∈ ws → j ∈ own.map (·.2))
    (hg : Blk X scope fun Y => QG Y B W0 ws tg g) (ht : Blk X scope fun Y => QTs Y B W0 ifs tt) (he : Blk X scope fun Y => QE Y B W0 elt te) (hs : ∀ x, foldedSetIterable iter X.env x = pure x := by intro _; rfl) :
    QE X B W (.ListComp elt [⟨tg, iter, ifs, 0⟩] scope pos) (aLcF ti g tt te (own.map (·.2))) :=
  pe_imp (pe_lc hc hN hi ok hg ht he hs) fun s H R h => lift_lcF hv h
theorem qs_setLcF {elt iter : Expr} {ifs : List Expr} {scope : Scope} {own : List (Str × Nat)} {ws : List Nat} {g : AG} {y : Str} {py spos : Pos} (j : Nat) (hc : X.calm = true) (hN : X.N.Nodup) (hi : QI X B W tg iter ti) (ok : BlkOk X.N X.env.scope scope own) (hv : ∀ j, j ∈ ws → j ∈ own.map (·.2))
    (hg : Blk X scope fun Y => QG Y B W0 ws tg g) (ht : Blk X scope fun Y => QTs Y B W0 ifs tt) (he : Blk X scope fun Y => QE Y B W0 elt te) (hy : X.N[j]? = some y := by rfl) (hyl : X.env.scope.names.lookup y = some .local := by rfl)
    (hsw : swapsWith (.ListComp elt [⟨tg, iter, ifs, 0⟩] scope pos) (some (.Name y py)) spos.line X.env = pure true := by exact sw_true rfl rfl rfl (by decide +kernel)) (hs : ∀ x, foldedSetIterable iter X.env x = pure x := by intro _; rfl) :
    QS X B W (.Assign [.Name y py] (.ListComp elt [⟨tg, iter, ifs, 0⟩] scope pos) spos) (aAsg (aLcF ti g tt te (own.map (·.2))) (agName j)) :=
  ps_imp (ps_setLc hc hN hy hyl hsw hi ok hg ht he hs) fun Dc s H ⟨G, σ, M, D, ss, h, kn, kr, kb, kc, kx⟩ =>
    lift_lcF hv ⟨G, σ, M, _, D.xx, ss, h, fun v H1 ⟨x, M1, G1, e1, m1, r1, q1⟩ => kn _ H1 _ M1 G1 e1 ((ss.with e1 m1).set j r1) q1, kx⟩
end

/-! ### a def's exits -/
/-- d, told where the memory is M again -/
@[simp] def fzD (M M' : Mem) (d : D) (k : D → Prop) : Prop := match d with
  | .ref p => ∃ xs, M p = none ∧ MLe M M' ∧ M' p = some (.lst xs) ∧ k (.lst xs)
  | d => MLe M M' ∧ k d
theorem fzD_gh {M M' : Mem} {d : D} {Q : DK} (h : fzD M M' d fun d' => Q d' M) : ∃ d' M2, Gh M2 d M' d' ∧ Q d' M2 := (by exact HA.Wq.get : @HA.Wq (∃ d' M2, Gh M2 d M' d' ∧ Q d' M2) (by
  unfold fzD at h
  split at h
  · obtain ⟨xs, h1, h2, h3, h4⟩ := h
    exact ⟨_, M, .lst h2 h1 h3, h4⟩
  · exact ⟨_, M, .drop h.1 _, h.2⟩))
section
variable {P : Program} {w : World} {K : PySem.W.Frag} {mg : Str → Option Value} {base : Heap} {k : Nat} {f : Addr} {fd : FuncData} {ps : List Str} {sp sp' : ASp}
/-- another promise, by what lies there at the entry -/
theorem FA.imp2 (F : FA P w K mg base k f fd ps sp) (h : ∀ G H ds M Q E, SM K G M H → sp' ds M Q E → ∃ M1 Q1 E1, SM K G M1 H ∧ sp ds M1 Q1 E1 ∧ (∀ v H', Kv K G Q1 v H' → Kv K G Q v H') ∧ ∀ c d H', Kx K G E1 c d H' → Kx K G E c d H')
    (hl : ∀ ds M Q E, sp' ds M Q E → ds.length = ps.length) : FA P w K mg base k f fd ps sp' :=
  ⟨hl, fun A outer s H args us vs ds G M Q E hr hg he hb hv m r q => by
    obtain ⟨M1, Q1, E1, m1, q1, kq, kx⟩ := h G H ds M Q E m q
    refine codeAny_mono (F.run A outer s H args us vs ds G M1 Q1 E1 hr hg he hb hv m1 r q1) fun z s' hz => ?_
    cases z with
    | error e =>
      obtain ⟨H', a1, a2, a3, a4, cls, d, b1, b2, b3, b4, b5, b6⟩ := hz
      exact ⟨H', a1, a2, a3, a4, cls, d, b1, b2, b3, b4, b5, kx _ _ _ b6⟩
    | ok fl =>
      cases fl with
      | ret u => obtain ⟨v, H', os, bare, un, ok', r', q⟩ := hz; exact ⟨v, H', os, bare, un, ok', r', kq _ _ q⟩
      | next => exact hz
      | brk => exact hz
      | cont => exact hz⟩
end
end HA
/-! A12: defs that leave the memory as it was; drawn deals; loops over ranges and lists. -/
namespace HA
open PySem PySem.Spec L2
section
variable {P : Program} {w : World} {K : PySem.W.Frag} {mg : Str → Option Value} {base : Heap} {x qual : Str} {st : Stmt} {f : Addr} {fd : FuncData} {N ps : List Str} {k : Nat} {sp sp' : ASp} {t : ASt}
theorem Kx.drop {G H : Hp} {M : Mem} {E : AX} {c : Value} {d : Option Addr} (h : Kx K G (fun C fs M' => ∃ M2, MLe M2 M' ∧ E C fs M2) c d H) : Kx K G E c d H := by
  obtain ⟨C, fs, a, vs, M', G', e1, e2, e3, m, h1, h2, M2, hl, q⟩ := h
  exact ⟨C, fs, a, vs, M2, G', e1, e2, e3, m.drop hl, h1, h2, q⟩
/-- the derivation of a def's body, in its context -/
def DefC (P : Program) (w : World) (K : PySem.W.Frag) (mg : Str → Option Value) (base : Heap) (N : List Str) (qual : Str) (st : Stmt) (f : Addr) (k : Nat) (cdv : Value) (t : ASt) : Prop :=
  ∀ A outer s H E B W, Room k (BX P w K mg base N qual st f cdv A outer s H E).A → (BX P w K mg base N qual st f cdv A outer s H E).A.guards = some [] → Takes (BX P w K mg base N qual st f cdv A outer s H E) W → PassesOwn (model P w) (BX P w K mg base N qual st f cdv A outer s H E).A (BX P w K mg base N qual st f cdv A outer s H E).env (BX P w K mg base N qual st f cdv A outer s H E).xe → QSs (BX P w K mg base N qual st f cdv A outer s H E) B W (defBody st) t
def DefD (P : Program) (w : World) (K : PySem.W.Frag) (mg : Str → Option Value) (base : Heap) (N : List Str) (qual : Str) (st : Stmt) (f : Addr) (k : Nat) (t : ASt) : Prop := ∀ cdv, DefC P w K mg base N qual st f k cdv t
/-- what is wanted at the exits of a def that leaves the memory as it was -/
def pureE (M : Mem) (Q : DK) (E : AX) : AEn := { nx := fun _ M' => MLe M M' ∧ Q .non M, rt := fun d M' => fzD M M' d fun d' => Q d' M, xx := fun _ C fs M' => MLe M M' ∧ E C fs M }
/-- .. of any def -/
def anyE (Q : DK) (E : AX) : AEn := { nx := fun _ M' => ∃ M2, MLe M2 M' ∧ Q .non M2, rt := fun d M' => ∃ M2, MLe M2 M' ∧ Q d M2, xx := fun _ C fs M' => ∃ M2, MLe M2 M' ∧ E C fs M2 }
/-- a def's promise by its body: the exits weakened -/
theorem fa_ghC (F : Fun K x qual st f fd) (S : FnScope N ps (defScope st)) (len : ∀ ds M Q E, sp ds M Q E → ds.length = ps.length) (hb : ∀ cdv, fd.code = cdv → DefC P w K mg base N qual st f k cdv t)
    (h : ∀ ds M Q E, sp ds M Q E → ∃ D : AEn, t D (startA N ds) M ∧ (∀ σ M', D.nx σ M' → ∃ d' M2, Gh M2 .non M' d' ∧ Q d' M2) ∧ (∀ d M', D.rt d M' → ∃ d' M2, Gh M2 d M' d' ∧ Q d' M2) ∧ (∀ σ M', ¬ D.bk σ M') ∧ (∀ σ M', ¬ D.ct σ M') ∧ ∀ σ C fs M', D.xx σ C fs M' → ∃ M2, MLe M2 M' ∧ E C fs M2) : FA P w K mg base (k + 1) f fd ps sp := (by exact HA.Wq.get : @HA.Wq (FA P w K mg base (k + 1) f fd ps sp) (by
  obtain ⟨oc, od, kV, doc, pm, an, cdv, ct, osl, rfl, lk, hcd⟩ := F.ex
  refine ⟨len, fun A outer s H args us vs ds G M Q E hr hg e0 hbd r m rp hs => ?_⟩
  have hl : vs.length = ps.length := by rw [← rp.len]; exact len _ _ _ _ hs
  have inK : K.In s.heap := e0.mod.kin.keeps fun b o z => (e0.bs b o z).1
  have nol : s.heap.NoLimit := e0.mod.nolimit.keeps fun b o z => (e0.bs b o z).1
  have kinds : ∀ y ∈ ps.zip us, (defScope st).names.lookup y.1 = some .local ∨ ((defScope st).names.lookup y.1 = some .cell ∧ ((cellsFrom (s.heap.objs.size + 1) (defScope st).names []).lookup y.1).isSome = true) := by
    rintro ⟨y, v⟩ hy
    exact (S.par y (List.of_mem_zip hy).1).imp id fun z => ⟨z, PySem.W.cellsFrom_some _ _ _ (.inl z)⟩
  refine codeAny_call_function hr.depth (inK _ _ lk) rfl S.co S.gen rfl (PySem.W.codeRec_of inK hcd) (hbd _ _ _ _ (wpAny_newFunctionEnv_cells S.kind kinds fun env ee s1 xx => ?_))
  subst ee
  refine ⟨nol.keeps xx.toInCall.keep, codeAny_func ?_⟩
  have I := inv_start (CX := L2.CX P w) (P := P) (w := w) (K := K) (mg := mg) (base := base) (cd := cdv) (E := Kx K G E) S hr.hd e0 hl r xx
  have tk := takes_of (X := BX P w K mg base N qual st f cdv A outer s H (Kx K G E)) (E := Kx K G E) rfl rfl rfl rfl
  have qb := hb cdv rfl A outer s H (Kx K G E) G _ (hr.deeper _) hg tk (passes_of rfl)
  have e0l : (startA N ds).length = (L2.start N vs).length := by simp [startA, L2.start, rp.len]
  have ss : SS K G G (startA N ds) M (L2.start N vs) H := ⟨Same.refl G, m, e0l, fun i d hd => by
    unfold startA at hd
    unfold L2.start
    by_cases hi : i < ds.length
    · rw [List.getElem?_append_left (by simpa using hi), List.getElem?_map] at hd
      cases z : ds[i]? with
      | none => rw [z] at hd; cases hd
      | some y =>
        rw [z] at hd
        cases hd
        obtain ⟨v, h1, h2⟩ := rp.get z
        exact ⟨v, by rw [List.getElem?_append_left (by simp; rw [← rp.len]; exact hi), List.getElem?_map, h1]; rfl, h2⟩
    · rw [List.getElem?_append_right (by simpa using hi), List.getElem?_replicate] at hd
      split at hd <;> cases hd⟩
  have fin : ∀ {σ' : L2.St} {H' : Hp} {s' : Shared} {v : V} {u : Value}, Inv (BX P w K mg base N qual st f cdv A outer s H (Kx K G E)) [] σ' H' s' → RelV v u → Kv K G Q v H' → CE outer P w H s (Kv K G Q) u s' := fun J rv q => ⟨_, _, J.os, J.bare, J.base, J.hok, rv, q⟩
  obtain ⟨D, hD, kn, kr, kb, kc, kx⟩ := h ds M Q E hs
  refine wpAny_mono (qb.run [] s1 (L2.start N vs) H { nx := fun _ H' => Kv K G Q .non H', rt := Kv K G Q } I ⟨G, _, M, D, ss, hD, fun s' H' σ' M' G' e' ss' q => Kv.gh ⟨.non, M', G', e', ss'.mem, .non, kn σ' M' q⟩, fun v H' ⟨d, M', G', e, m, r, q⟩ => Kv.gh ⟨d, M', G', e, m, r, kr d M' q⟩, fun _ _ σ' M' _ _ _ z => kb σ' M' z, fun _ _ σ' M' _ _ _ z => kc σ' M' z, fun c d s' H' ⟨C, fs, a, vs, σ, M', G', e1, e2, s5, h1, h2, q⟩ => Kx.drop (M := M') ⟨C, fs, a, vs, M', G', e1, e2, s5.base, s5.mem, h1, h2, kx σ C fs M' q⟩⟩)
    (fun fl s' hs' => ?_) fun e s' hs' => hs'
  cases fl with
  | ret u => obtain ⟨v, σ', H', J, rv, q⟩ := hs'; exact fin J rv q
  | next => obtain ⟨σ', H', J, q⟩ := hs'; exact fin (v := .non) (u := .none) J rfl q
  | brk => obtain ⟨_, _, _, z⟩ := hs'; exact z.elim
  | cont => obtain ⟨_, _, _, z⟩ := hs'; exact z.elim))

theorem fa_gh (F : Fun K x qual st f fd) (S : FnScope N ps (defScope st)) (len : ∀ ds M Q E, sp ds M Q E → ds.length = ps.length) (hb : DefD P w K mg base N qual st f k t)
    (h : ∀ ds M Q E, sp ds M Q E → ∃ D : AEn, t D (startA N ds) M ∧ (∀ σ M', D.nx σ M' → ∃ d' M2, Gh M2 .non M' d' ∧ Q d' M2) ∧ (∀ d M', D.rt d M' → ∃ d' M2, Gh M2 d M' d' ∧ Q d' M2) ∧ (∀ σ M', ¬ D.bk σ M') ∧ (∀ σ M', ¬ D.ct σ M') ∧ ∀ σ C fs M', D.xx σ C fs M' → ∃ M2, MLe M2 M' ∧ E C fs M2) : FA P w K mg base (k + 1) f fd ps sp := fa_ghC F S len (fun cdv _ => hb cdv) h
theorem fa_pureC (F : Fun K x qual st f fd) (S : FnScope N ps (defScope st)) (len : ∀ ds M Q E, sp ds M Q E → ds.length = ps.length) (hb : ∀ cdv, fd.code = cdv → DefC P w K mg base N qual st f k cdv t)
    (h : ∀ ds M Q E, sp ds M Q E → t (pureE M Q E) (startA N ds) M) : FA P w K mg base (k + 1) f fd ps sp :=
  fa_ghC F S len hb fun ds M Q E q => ⟨_, h ds M Q E q, fun σ M' z => ⟨_, M, .drop z.1 _, z.2⟩, fun d M' z => fzD_gh z, fun _ _ z => z, fun _ _ z => z, fun σ C fs M' z => ⟨M, z⟩⟩
theorem fa_anyC (F : Fun K x qual st f fd) (S : FnScope N ps (defScope st)) (len : ∀ ds M Q E, sp ds M Q E → ds.length = ps.length) (hb : ∀ cdv, fd.code = cdv → DefC P w K mg base N qual st f k cdv t)
    (h : ∀ ds M Q E, sp ds M Q E → t (anyE Q E) (startA N ds) M) : FA P w K mg base (k + 1) f fd ps sp :=
  fa_ghC F S len hb fun ds M Q E q => ⟨_, h ds M Q E q, fun σ M' ⟨M2, l, z⟩ => ⟨_, M2, .drop l _, z⟩, fun d M' ⟨M2, l, z⟩ => ⟨_, M2, .drop l _, z⟩, fun _ _ z => z, fun _ _ z => z, fun σ C fs M' z => z⟩
theorem fa_pure (F : Fun K x qual st f fd) (S : FnScope N ps (defScope st)) (len : ∀ ds M Q E, sp ds M Q E → ds.length = ps.length) (hb : DefD P w K mg base N qual st f k t)
    (h : ∀ ds M Q E, sp ds M Q E → t (pureE M Q E) (startA N ds) M) : FA P w K mg base (k + 1) f fd ps sp := fa_pureC F S len (fun cdv _ => hb cdv) h
theorem fa_any (F : Fun K x qual st f fd) (S : FnScope N ps (defScope st)) (len : ∀ ds M Q E, sp ds M Q E → ds.length = ps.length) (hb : DefD P w K mg base N qual st f k t)
    (h : ∀ ds M Q E, sp ds M Q E → t (anyE Q E) (startA N ds) M) : FA P w K mg base (k + 1) f fd ps sp := fa_anyC F S len (fun cdv _ => hb cdv) h

/-! ### drawn deals -/
/-- numbers of a pool -/
def PoolOk (ns : List Int) : Prop := ns.length ≤ 63 ∧ ∀ n ∈ ns, 0 ≤ n ∧ n.natAbs < 2 ^ big
/-- the deal a and its pool l, opened -/
def opn (M : Mem) (a l : Addr) (n : Int) (ns : List Int) : Mem := mset (mset M a (.lst [.ref l, .int n])) l (.lst (ns.map D.int))
def spAnyT : ASp := fun ds M Q _ => ∃ a l n m ns, ds = [.ref a, .int m] ∧ a ≠ l ∧ M a = some (.lst [.ref l, .int n]) ∧ M l = some (.lst (ns.map D.int)) ∧ PoolOk ns ∧ (0 ≤ n ∧ n < 2147483647) ∧ (0 < m ∧ m.natAbs < 2 ^ 9000) ∧
  ∀ r n' ns' M', 0 ≤ r → r < m → PoolOk ns' → 0 ≤ n' → n' < 2147483647 → MLe (opn M a l n' ns') M' → Q (.int r) M'
/-- a deal -/
def Deal (M : Mem) (x : D) : Prop := match x with
  | .ref a => ∃ l, a ≠ l ∧ M a = some (.deal l) ∧ M l = some .pool
  | _ => False
theorem Deal.up {M M' : Mem} {x : D} (h : Deal M x) (e : MLe M M') : Deal M' x := by
  match x, h with
  | .ref a, ⟨l, h0, h1, h2⟩ => exact ⟨l, h0, e _ _ h1, e _ _ h2⟩
def spAny : ASp := fun ds M Q _ => ∃ x m, ds = [x, .int m] ∧ Deal M x ∧ (0 < m ∧ m.natAbs < 2 ^ 9000) ∧ ∀ r, 0 ≤ r → r < m → Q (.int r) M
theorem SM.retype {K : PySem.W.Frag} {G H : Hp} {M : Mem} {a : Addr} {c c' : Cell} (m : SM K G M H) (h : M a = some c') (k : COk K G H a c) : SM K G (mset M a c) H := ⟨m.same, fun b d e => by
  by_cases hb : b = a
  · subst hb; rw [mset_same] at e; cases e; exact ⟨(m.cell _ _ h).1, k⟩
  · rw [mset_ne hb] at e; exact m.cell b d e⟩
theorem SM.opened {K : PySem.W.Frag} {G H : Hp} {M : Mem} {a l : Addr} (m : SM K G M H) (hal : a ≠ l) (ha : M a = some (.deal l)) (hl : M l = some .pool) : ∃ n ns, (0 ≤ n ∧ n < 2147483647) ∧ PoolOk ns ∧ SM K G (opn M a l n ns) H := (by exact HA.Wq.get : @HA.Wq (∃ n ns, (0 ≤ n ∧ n < 2147483647) ∧ PoolOk ns ∧ SM K G (opn M a l n ns) H) (by
  obtain ⟨_, n, hn, ea⟩ := m.cell a _ ha
  obtain ⟨_, ns, h1, h2, el⟩ := m.cell l _ hl
  have m1 := m.retype (c := .lst [.ref l, .int n]) ha ⟨_, .cons (.ref l) (.cons (.int n) .nil), ea⟩
  have hl' : mset M a (.lst [.ref l, .int n]) l = some .pool := by rw [mset_ne (Ne.symm hal)]; exact hl
  exact ⟨n, ns, hn, ⟨h1, h2⟩, m1.retype (c := .lst (ns.map D.int)) hl' ⟨_, .ints ns, el⟩⟩))
theorem SM.shut {K : PySem.W.Frag} {G H : Hp} {M M' : Mem} {a l : Addr} {n : Int} {ns : List Int} (hal : a ≠ l) (ha : M a = some (.deal l)) (hl : M l = some .pool) (hn : 0 ≤ n ∧ n < 2147483647) (hp : PoolOk ns) (m : SM K G M' H) (e : MLe (opn M a l n ns) M') : SM K G M H := ⟨m.same, fun b c hb => by
  have oa : opn M a l n ns a = some (.lst [.ref l, .int n]) := by unfold opn; rw [mset_ne hal, mset_same]
  have ol : opn M a l n ns l = some (.lst (ns.map D.int)) := by unfold opn; rw [mset_same]
  by_cases h1 : b = a
  · subst h1
    obtain ⟨g0, vs, r, eH⟩ := m.cell b _ (e _ _ oa)
    rw [ha] at hb
    cases hb
    obtain ⟨v, w, rfl, r1, r2⟩ := rpa2 r
    cases r1; cases r2
    exact ⟨g0, n, hn, eH⟩
  · by_cases h2 : b = l
    · subst h2
      obtain ⟨g0, vs, r, eH⟩ := m.cell b _ (e _ _ ol)
      rw [hl] at hb
      cases hb
      have := r.of_ints
      subst this
      exact ⟨g0, ns, hp.1, hp.2, eH⟩
    · refine m.cell b c (e _ _ ?_)
      unfold opn
      rw [mset_ne h2, mset_ne h1]; exact hb⟩
theorem fa_draw (F : FA P w K mg base k f fd ps spAnyT) : FA P w K mg base k f fd ps spAny := F.imp2 (fun G H ds M Q E m ⟨x, m', h1, h2, h3, h4⟩ => by
    subst h1
    match x, h2 with
    | .ref a, ⟨l, hal, ha, hl⟩ =>
      obtain ⟨n, ns, hn, hp, mo⟩ := m.opened hal ha hl
      refine ⟨_, fun v M' => ∃ r n' ns', v = .int r ∧ 0 ≤ r ∧ r < m' ∧ PoolOk ns' ∧ (0 ≤ n' ∧ n' < 2147483647) ∧ MLe (HA.opn M a l n' ns') M', E, mo, ⟨a, l, n, m', ns, rfl, hal, ?_, ?_, hp, hn, h3, fun r n' ns' M' h5 h6 h7 h8 h9 h10 => ⟨r, n', ns', rfl, h5, h6, h7, ⟨h8, h9⟩, ?_⟩⟩, fun v H' kv => ?_, fun _ _ _ z => z⟩
      · unfold HA.opn; rw [mset_ne hal, mset_same]
      · unfold HA.opn; rw [mset_same]
      · have : HA.opn (HA.opn M a l n ns) a l n' ns' = HA.opn M a l n' ns' := by
          unfold HA.opn
          rw [mset_comm (Ne.symm hal) (M := mset M a _), mset_mset, mset_mset]
        rwa [this] at h10
      · obtain ⟨d, M', G', e, m2, rp, r, n', ns', rfl, h5, h6, h7, h8, h9⟩ := kv
        exact ⟨.int r, M, G', e, SM.shut hal ha hl h8 h7 m2 h9, rp, h4 r h5 h6⟩) fun ds M Q E ⟨x, m', h1, h2, h3, h4⟩ => by
    match x, h2 with
    | .ref a, ⟨l, hal, ha, hl⟩ => exact F.len ds (HA.opn M a l 0 []) (fun _ _ => True) E ⟨a, l, 0, m', [], h1, hal, by unfold HA.opn; rw [mset_ne hal, mset_same], by unfold HA.opn; rw [mset_same], ⟨by simp, by simp⟩, ⟨by decide, by decide⟩, h3, fun _ _ _ _ _ _ _ _ _ _ => trivial⟩
/-- a deal is made of a script and a number -/
def spSrcT : ASp := fun ds M Q _ => ∃ (ns : List Int) (b : Int), ds = [.frz (ns.map D.int), .int b] ∧ ns.length ≤ 63 ∧ (∀ z ∈ ns, z.natAbs < 2 ^ big) ∧ (0 ≤ b ∧ b < 1000) ∧
  ∀ a l n ns' M', a ≠ l → M a = none → M l = none → MLe M M' → M' a = some (.lst [.ref l, .int n]) → M' l = some (.lst (ns'.map D.int)) → PoolOk ns' → 0 ≤ n → n < 2147483647 → Q (.ref a) M'
def spSrc : ASp := fun ds M Q _ => ∃ (ns : List Int) (b : Int), ds = [.frz (ns.map D.int), .int b] ∧ ns.length ≤ 63 ∧ (∀ z ∈ ns, z.natAbs < 2 ^ big) ∧ (0 ≤ b ∧ b < 1000) ∧
  ∀ a M', MLe M M' → M a = none → Deal M' (.ref a) → Q (.ref a) M'
theorem fa_src (F : FA P w K mg base k f fd ps spSrcT) : FA P w K mg base k f fd ps spSrc := F.imp2 (fun G H ds M Q E m ⟨ns, b, h1, h2, h3, h4, q⟩ => by
    refine ⟨M, fun v M' => ∃ a l n ns', v = .ref a ∧ a ≠ l ∧ M a = none ∧ M l = none ∧ MLe M M' ∧ M' a = some (.lst [.ref l, .int n]) ∧ M' l = some (.lst (ns'.map D.int)) ∧ PoolOk ns' ∧ 0 ≤ n ∧ n < 2147483647, E, m, ⟨ns, b, h1, h2, h3, h4, fun a l n ns' M' z1 z2 z3 z4 z5 z6 z7 z8 z9 => ⟨a, l, n, ns', rfl, z1, z2, z3, z4, z5, z6, z7, z8, z9⟩⟩, fun v H' kv => ?_, fun _ _ _ z => z⟩
    obtain ⟨d, M', G', e, m2, rp, a, l, n, ns', rfl, z1, z2, z3, z4, z5, z6, z7, z8, z9⟩ := kv
    obtain ⟨_, vs, r, eH⟩ := m2.cell a _ z5
    obtain ⟨v1, v2, rfl, r1, r2⟩ := rpa2 r
    cases r1; cases r2
    obtain ⟨_, ws, rw', eL⟩ := m2.cell l _ z6
    have := rw'.of_ints
    subst this
    have m3 := m2.retype (c := .deal l) z5 ⟨n, ⟨z8, z9⟩, eH⟩
    have z6' : mset M' a (.deal l) l = some (.lst (ns'.map D.int)) := by rw [mset_ne (Ne.symm z1)]; exact z6
    have m4 := m3.retype (c := .pool) z6' ⟨ns', z7.1, z7.2, eL⟩
    refine ⟨.ref a, _, G', e, m4, rp, q a _ (fun b c hb => ?_) z2 ⟨l, z1, by rw [mset_ne z1, mset_same], mset_same⟩⟩
    have n1 : b ≠ l := none_ne z3 hb
    have n2 : b ≠ a := none_ne z2 hb
    rw [mset_ne n1, mset_ne n2]; exact z4 _ _ hb) fun ds M Q E ⟨ns, b, h1, h2, h3, h4, q⟩ => F.len ds M (fun _ _ => True) E ⟨ns, b, h1, h2, h3, h4, fun _ _ _ _ _ _ _ _ _ _ _ _ _ _ => trivial⟩
/-- one of some things -/
def spOf : ASp := fun ds M Q _ => ∃ x y xs, ds = [x, y] ∧ Deal M x ∧ (y = .tup xs ∨ y = .lst xs ∨ ∃ a, y = .ref a ∧ M a = some (.lst xs)) ∧ xs ≠ [] ∧ xs.length < 1000000 ∧ ∀ d ∈ xs, Q d M
end
end HA
/-! A13: what may be shown and compared; small helps. -/
namespace HA
open PySem PySem.Spec L2
/-! ### shown -/
structure Sh (d : PyData) (n k : Nat) : Prop where
  sh : d.showable = true
  ln : d.shown.length ≤ n
  dp : d.depth ≤ k
  nd : d.hasDict = false
theorem Sh.ok {d : PyData} {n k : Nat} (h : Sh d n k) (hn : n ≤ 16777216) (hk : k ≤ 60) : ShowOk d := ⟨h.sh, Nat.le_trans h.ln (by rw [show sizeLine = 16777216 from by decide]; exact hn), Nat.le_trans h.dp hk, h.nd⟩
theorem Sh.mono {d : PyData} {n k n' k' : Nat} (h : Sh d n k) (hn : n ≤ n') (hk : k ≤ k') : Sh d n' k' := ⟨h.sh, Nat.le_trans h.ln hn, Nat.le_trans h.dp hk, h.nd⟩
theorem Sh.int {i : Int} (h : i.natAbs.log2 < 1920) : Sh (.int i) 1921 0 := ⟨by simpa [PyData.showable] using h, by
  have e := int_text_length_le (k := 1920) (by decide) h
  show (Str.ofString (toString i)).length ≤ 1921
  rw [ofString_length]; exact e, by simp [PyData.depth], rfl⟩
theorem log_small {i : Int} {b : Nat} (h : i.natAbs < 2 ^ b) (hb : b ≤ 1920) (h0 : 0 < b) : i.natAbs.log2 < 1920 := (by exact HA.Wq.get : @HA.Wq (i.natAbs.log2 < 1920) (by
  refine Nat.lt_of_lt_of_le ?_ hb
  by_cases hz : i.natAbs = 0
  · rw [hz]; simpa using h0
  · exact (Nat.log2_lt hz).mpr h))
theorem Sh.bl (b : Bool) : Sh (.bool b) 1921 0 := by
  cases b <;> exact ⟨rfl, by decide +kernel, by simp [PyData.depth], rfl⟩
theorem Sh.non : Sh .none 1921 0 := ⟨rfl, by decide +kernel, by simp [PyData.depth], rfl⟩
theorem Sh.str {x : Str} (h : (reprText x).length ≤ 1921) : Sh (.str x) 1921 0 := ⟨rfl, h, by simp [PyData.depth], rfl⟩
theorem sh_all {n k : Nat} : ∀ {xs : List PyData}, (∀ x ∈ xs, Sh x n k) → PyData.showableAll xs = true ∧ ((PyData.shownAll xs).map (·.length)).sum ≤ xs.length * n ∧ (PyData.shownAll xs).length = xs.length ∧ PyData.depthAll xs ≤ k ∧ PyData.hasDictAll xs = false
  | [], _ => ⟨rfl, by simp [PyData.shownAll], rfl, by simp [PyData.depthAll], rfl⟩
  | x :: r, h => by
    obtain ⟨a1, a2, a3, a4, a5⟩ := sh_all (xs := r) fun y hy => h y (List.mem_cons_of_mem _ hy)
    have hx := h x List.mem_cons_self
    refine ⟨by simp [PyData.showableAll, hx.sh, a1], ?_, by simp [PyData.shownAll, a3], ?_, by simp [PyData.hasDictAll, hx.nd, a5]⟩
    · have := hx.ln
      simp only [PyData.shownAll, List.map_cons, List.sum_cons, List.length_cons]
      rw [Nat.add_mul, Nat.one_mul]; omega
    · have := hx.dp
      simp only [PyData.depthAll]; omega
theorem Sh.lst {n k : Nat} {xs : List PyData} (h : ∀ x ∈ xs, Sh x n k) : Sh (.list xs) (xs.length * (n + 2) + 4) (k + 1) := (by exact HA.Wq.get : @HA.Wq (Sh (.list xs) (xs.length * (n + 2) + 4) (k + 1)) (by
  obtain ⟨a1, a2, a3, a4, a5⟩ := sh_all h
  refine ⟨by simpa [PyData.showable] using a1, ?_, by simp only [PyData.depth]; omega, by simpa [PyData.hasDict] using a5⟩
  have := listText_len_le (PyData.shownAll xs)
  simp only [PyData.shown]
  rw [Nat.mul_add]; omega))
theorem piled_eq (ts : List Str) : piled ts = (ts.map (·.length)).sum + 2 * ts.length := by
  induction ts with
  | nil => rfl
  | cons t r ih => rw [piled_cons, ih]; simp only [List.map_cons, List.sum_cons, List.length_cons]; omega
theorem tupleText_len_le (ts : List Str) : (tupleText ts).length ≤ (ts.map (·.length)).sum + 2 * ts.length + 4 := (by exact HA.Wq.get : @HA.Wq ((tupleText ts).length ≤ (ts.map (·.length)).sum + 2 * ts.length + 4) (by
  unfold tupleText
  rw [strLen_append, strLen_append]
  have e1 : ((("(" : String) : Str)).length = 1 := rfl
  have e3 : (((if ts.length == 1 then ",)" else ")" : String) : Str)).length ≤ 2 := by split <;> decide
  rw [e1]
  by_cases h : ts = []
  · subst h; have : (Str.join ", " ([] : List Str)).length = 0 := rfl; simp only [List.map_nil, List.sum_nil]; omega
  · have := join_length_add ts h
    rw [piled_eq] at this; omega))
theorem Sh.tup {n k : Nat} {xs : List PyData} (h : ∀ x ∈ xs, Sh x n k) : Sh (.tuple xs) (xs.length * (n + 2) + 4) (k + 1) := (by exact HA.Wq.get : @HA.Wq (Sh (.tuple xs) (xs.length * (n + 2) + 4) (k + 1)) (by
  obtain ⟨a1, a2, a3, a4, a5⟩ := sh_all h
  refine ⟨by simpa [PyData.showable] using a1, ?_, by simp only [PyData.depth]; omega, by simpa [PyData.hasDict] using a5⟩
  have := tupleText_len_le (PyData.shownAll xs)
  simp only [PyData.shown]
  rw [Nat.mul_add]; omega))
/-- ints below a bound -/
def SmallI (ns : List Int) : Prop := ∀ n ∈ ns, n.natAbs < 2 ^ 1920
theorem Sh.ints {ns : List Int} (h : SmallI ns) : ∀ x ∈ ns.map PyData.int, Sh x 1921 0 := fun x hx => by
  obtain ⟨n, hn, rfl⟩ := List.mem_map.mp hx
  exact .int (log_small (h n hn) (Nat.le_refl _) (by decide))
theorem show_tup {ns : List Int} (h : SmallI ns) (hl : ns.length ≤ 8000) : ShowOk (.tuple (ns.map .int)) := (Sh.tup (Sh.ints h)).ok (by rw [List.length_map]; omega) (by decide)
theorem show_lst {ns : List Int} (h : SmallI ns) (hl : ns.length ≤ 8000) : ShowOk (.list (ns.map .int)) := (Sh.lst (Sh.ints h)).ok (by rw [List.length_map]; omega) (by decide)
theorem show_int {i : Int} (h : i.natAbs < 2 ^ 1920) : ShowOk (.int i) := (Sh.int (log_small h (Nat.le_refl _) (by decide))).ok (by decide) (by decide)
/-! ### compared -/
mutual
theorem eqv_refl : ∀ d : PyData, d.hasDict = false → PyData.eqv d d = true
  | .none, _ => rfl
  | .bool b, _ => by simp [PyData.eqv]
  | .int i, _ => by simp [PyData.eqv]
  | .str x, _ => by simp [PyData.eqv]
  | .list xs, h => by simp only [PyData.eqv]; exact eqvAll_refl xs (by simpa [PyData.hasDict] using h)
  | .tuple xs, h => by simp only [PyData.eqv]; exact eqvAll_refl xs (by simpa [PyData.hasDict] using h)
  | .dict kvs, h => by simp [PyData.hasDict] at h
theorem eqvAll_refl : ∀ ds : List PyData, PyData.hasDictAll ds = false → PyData.eqvAll ds ds = true
  | [], _ => rfl
  | x :: r, h => by
    simp only [PyData.hasDictAll, Bool.or_eq_false_iff] at h
    simp only [PyData.eqvAll, eqv_refl x h.1, eqvAll_refl r h.2, Bool.and_self]
end
theorem eqv_ints : ∀ {xs ys : List Int}, PyData.eqvAll (xs.map .int) (ys.map .int) = decide (xs = ys)
  | [], [] => rfl
  | [], y :: ys => by simp [PyData.eqvAll]
  | x :: xs, [] => by simp [PyData.eqvAll]
  | x :: xs, y :: ys => by
    simp only [List.map_cons, PyData.eqvAll, PyData.eqv, eqv_ints (xs := xs) (ys := ys)]
    by_cases h : x = y <;> by_cases h2 : xs = ys <;> simp [h, h2]
theorem canLay_ints : ∀ ns : List Int, PyData.canLayAll0 (ns.map .int) = true
  | [] => rfl
  | n :: r => by simp [PyData.canLayAll0, PyData.canLay0, canLay_ints r]
theorem depth_ints : ∀ ns : List Int, PyData.depthAll (ns.map .int) = 0
  | [] => by simp [PyData.depthAll]
  | n :: r => by simp [PyData.depthAll, PyData.depth, depth_ints r]
theorem shaped_tup (ns : List Int) : SeqAt.shaped (.tuple (ns.map .int)) = true := by
  simp [SeqAt.shaped, PyData.canLay0, canLay_ints, PyData.depth, depth_ints]
theorem shaped_lst (ns : List Int) : SeqAt.shaped (.list (ns.map .int)) = true := by
  simp [SeqAt.shaped, PyData.canLay0, canLay_ints, PyData.depth, depth_ints]
/-! ### scalars compared, as simp sees them -/
section
variable {M : Mem} {Q : DK}
@[simp] theorem bEq_int {n : Bool} {i j : Int} : bEq n (.int i) (.int j) M Q = Q (.bl (n ^^ decide (i = j))) M := rfl
@[simp] theorem bEq_str {n : Bool} {i j : Str} : bEq n (.str i) (.str j) M Q = Q (.bl (n ^^ decide (i = j))) M := rfl
@[simp] theorem bEq_bl {n : Bool} {i j : Bool} : bEq n (.bl i) (.bl j) M Q = Q (.bl (n ^^ decide (i = j))) M := rfl
@[simp] theorem bEq_non {n : Bool} : bEq n .non .non M Q = Q (.bl (n ^^ true)) M := rfl
theorem bEq_tup {n : Bool} {xs ys : List Int} (h : Q (.bl (n ^^ decide (xs = ys))) M) : bEq n (.tup (xs.map .int)) (.tup (ys.map .int)) M Q :=
  ⟨_, _, .tup (.ints xs), .tup (.ints ys), shaped_tup xs, shaped_tup ys, by simp only [PyData.eqv]; rw [eqv_ints]; exact h⟩
/-- a list against a list, whatever both are -/
theorem bEq_lst {n : Bool} {x y : D} {xs ys : List Int} (hx : ∀ zs, x ≠ .tup zs) (hx1 : LsAt M x (xs.map .int)) (hy1 : LsAt M y (ys.map .int)) (h : Q (.bl (n ^^ decide (xs = ys))) M) : bEq n x y M Q := (by exact HA.Wq.get : @HA.Wq (bEq n x y M Q) (by
  have key : ∃ d e, DR M x d ∧ DR M y e ∧ SeqAt.shaped d = true ∧ SeqAt.shaped e = true ∧ Q (.bl (n ^^ PyData.eqv d e)) M := ⟨_, _, .lst hx1 (.ints xs), .lst hy1 (.ints ys), shaped_lst xs, shaped_lst ys, by simp only [PyData.eqv]; rw [eqv_ints]; exact h⟩
  match x, y, hx1 with
  | .lst _, _, _ => exact key
  | .frz _, _, _ => exact key
  | .ref _, _, _ => exact key))
end
/-- repr of a tuple of ints, of an int -/
theorem cRepr_tup {M : Mem} {Q : DK} {ns : List Int} (h : SmallI ns) (hl : ns.length ≤ 8000) (q : Q (.str (PyData.tuple (ns.map .int)).shown) M) : cRepr [.tup (ns.map .int)] M Q := ⟨_, .tup (.ints ns), show_tup h hl, q⟩
theorem cRepr_int {M : Mem} {Q : DK} {i : Int} (h : i.natAbs < 2 ^ 1920) (q : Q (.str (PyData.int i).shown) M) : cRepr [.int i] M Q := ⟨_, .int i, show_int h, q⟩
theorem cRepr_of {M : Mem} {Q : DK} {x : D} {d : PyData} (h : DR M x d) (k : ShowOk d) (q : Q (.str d.shown) M) : cRepr [x] M Q := ⟨_, h, k, q⟩
end HA
/-! A14: helps for verification. -/
namespace HA
open PySem PySem.Spec L2
theorem split_at {α : Type} {xs : List α} {i : Nat} {x : α} (hx : xs[i]? = some x) : xs = xs.take i ++ x :: xs.drop (i + 1) ∧ xs.take (i + 1) = xs.take i ++ [x] := (by exact HA.Wq.get : @HA.Wq (xs = xs.take i ++ x :: xs.drop (i + 1) ∧ xs.take (i + 1) = xs.take i ++ [x]) (by
  obtain ⟨hi, e⟩ := List.getElem?_eq_some_iff.mp hx
  constructor
  · have : xs.drop i = x :: xs.drop (i + 1) := by rw [List.drop_eq_getElem_cons hi, e]
    rw [← this, List.take_append_drop]
  · rw [List.take_succ, hx]; rfl))
section
variable {D' : AEn} {σ0 : AS} {M0 : Mem} {st : Mem → Prop} {g : AG} {tb : ASt}
/-- a loop by what was consumed -/
theorem for_fold {xs : List D} (S : List D → AS → Mem → Prop) (h0 : S [] σ0 M0)
    (turn : ∀ pre x rest, xs = pre ++ x :: rest → ∀ σ M, S pre σ M → st M ∧ g x σ M (fun σ2 M2 => tb { D' with nx := S (pre ++ [x]), ct := S (pre ++ [x]), bk := D'.nx } σ2 M2) D'.xx)
    (fin : ∀ σ M, S xs σ M → st M ∧ D'.nx σ M) :
    ∃ V : Nat → AS → Mem → Prop, V 0 σ0 M0 ∧ (∀ i x σ M, xs[i]? = some x → V i σ M → st M ∧ g x σ M (fun σ2 M2 => tb { D' with nx := V (i + 1), ct := V (i + 1), bk := D'.nx } σ2 M2) D'.xx) ∧ ∀ σ M, V xs.length σ M → st M ∧ D'.nx σ M := by
  refine ⟨fun i => S (xs.take i), by simpa using h0, fun i x σ M hx v => ?_, fun σ M v => fin σ M (by simpa using v)⟩
  obtain ⟨e1, e2⟩ := split_at hx
  have := turn (xs.take i) x (xs.drop (i + 1)) e1 σ M v
  simp only [e2]
  exact this
end
/-- a frozen comprehension by what was consumed -/
theorem lc_fold {xs : List D} {M1 : Mem} {Q : List D → Prop} {body : D → Mem → (List D → Prop) → List D → Prop} (R : List D → List D → Prop) (h0 : R [] [])
    (turn : ∀ pre x rest acc M', xs = pre ++ x :: rest → R pre acc → MLe M1 M' → body x M' (R (pre ++ [x])) acc) (fin : ∀ acc, R xs acc → Q acc) :
    ∃ R' : Nat → List D → Prop, R' 0 [] ∧ (∀ i x acc M', xs[i]? = some x → acc.length ≤ i → R' i acc → MLe M1 M' → body x M' (R' (i + 1)) acc) ∧ ∀ acc, R' xs.length acc → Q acc := (by exact HA.Wq.get : @HA.Wq (∃ R' : Nat → List D → Prop, R' 0 [] ∧ (∀ i x acc M', xs[i]? = some x → acc.length ≤ i → R' i acc → MLe M1 M' → body x M' (R' (i + 1)) acc) ∧ ∀ acc, R' xs.length acc → Q acc) (by
  refine ⟨fun i => R (xs.take i), by simpa using h0, fun i x acc M' hx _ v hM => ?_, fun acc v => fin acc (by simpa using v)⟩
  obtain ⟨e1, e2⟩ := split_at hx
  have := turn (xs.take i) x (xs.drop (i + 1)) acc M' e1 v hM
  simp only [e2]
  exact this))
@[simp] theorem MLe.refl' (M : Mem) : MLe M M ↔ True := iff_true_intro (.refl M)
/-- a list of images, split -/
theorem map_split {α : Type} {f : α → D} : ∀ {ns : List α} {pre rest : List D} {x : D}, ns.map f = pre ++ x :: rest → ∃ ps n rs, ns = ps ++ n :: rs ∧ pre = ps.map f ∧ x = f n ∧ rest = rs.map f
  | [], pre, rest, x, h => by cases pre <;> simp at h
  | n :: ns, [], rest, x, h => by
    simp only [List.map_cons, List.nil_append, List.cons.injEq] at h
    exact ⟨[], n, ns, rfl, rfl, h.1.symm, h.2.symm⟩
  | n :: ns, p :: pre, rest, x, h => by
    simp only [List.map_cons, List.cons_append, List.cons.injEq] at h
    obtain ⟨ps, m, rs, h1, h2, h3, h4⟩ := map_split h.2
    exact ⟨n :: ps, m, rs, by rw [h1]; rfl, by rw [h2, ← h.1]; rfl, h3, h4⟩
theorem rangeD_eq (lo : Int) (n : Nat) : rangeD lo n = (List.range n).map fun (j : Nat) => D.int (lo + j) := rfl
theorem range_split {n : Nat} {ps rs : List Nat} {m : Nat} (h : List.range n = ps ++ m :: rs) : m = ps.length ∧ m < n ∧ ps = List.range m := (by exact HA.Wq.get : @HA.Wq (m = ps.length ∧ m < n ∧ ps = List.range m) (by
  have h1 : (List.range n)[ps.length]? = some m := by rw [h]; simp
  obtain ⟨hl, e⟩ := List.getElem?_eq_some_iff.mp h1
  simp at e hl
  refine ⟨e.symm, by omega, ?_⟩
  have h2 : (List.range n).take ps.length = ps := by rw [h]; simp
  rw [← h2, List.take_range]
  congr 1
  omega))
theorem atI_last {α : Type} {xs : List α} {x : α} : atI (xs ++ [x]) (-1) = some x := (by exact HA.Wq.get : @HA.Wq (atI (xs ++ [x]) (-1) = some x) (by
  unfold atI ixN
  have e : ((xs ++ [x]).length : Int) = xs.length + 1 := by simp
  rw [if_neg (by omega), e, if_pos (by omega)]
  have e2 : (-1 + ((xs.length : Int) + 1)).toNat = xs.length := by omega
  rw [e2]
  simp))
end HA
namespace HA
open PySem PySem.Spec L2
/-- a frozen comprehension by what was consumed -/
theorem lcF_fold {xs : List D} {st : Mem → Prop} {M1 : Mem} {Q : List D → Prop} {σ : AS} {vs : List Nat} {g : AG} {tt : AT} {te : AE} (hst : ∀ M', MLe M1 M' → st M') (hl : xs.length ≤ sizeLine) (R : List D → List D → Prop) (h0 : R [] [])
    (turn : ∀ pre x rest acc M', xs = pre ++ x :: rest → R pre acc → MLe M1 M' → g x (wipeA σ vs) M' (fun σ2 M2 => tt σ2 M2 (fun b M3 => (b = true → te σ2 M3 (fun y M4 => M4 = M' ∧ R (pre ++ [x]) (acc ++ [y])) EF) ∧ (b = false → M3 = M' ∧ R (pre ++ [x]) acc)) EF) EF) (fin : ∀ acc, R xs acc → Q acc) :
    (∀ M', MLe M1 M' → st M') ∧ xs.length ≤ sizeLine ∧ ∃ R : Nat → List D → Prop, R 0 [] ∧
      (∀ i x acc M', xs[i]? = some x → acc.length ≤ i → R i acc → MLe M1 M' → g x (wipeA σ vs) M' (fun σ2 M2 => tt σ2 M2 (fun b M3 => (b = true → te σ2 M3 (fun y M4 => M4 = M' ∧ R (i + 1) (acc ++ [y])) EF) ∧ (b = false → M3 = M' ∧ R (i + 1) acc)) EF) EF) ∧ ∀ acc, R xs.length acc → Q acc := (by exact HA.Wq.get : @HA.Wq ((∀ M', MLe M1 M' → st M') ∧ xs.length ≤ sizeLine ∧ ∃ R : Nat → List D → Prop, R 0 [] ∧ (∀ i x acc M', xs[i]? = some x → acc.length ≤ i → R i acc → MLe M1 M' → g x (wipeA σ vs) M' (fun σ2 M2 => tt σ2 M2 (fun b M3 => (b = true → te σ2 M3 (fun y M4 => M4 = M' ∧ R (i + 1) (acc ++ [y])) EF) ∧ (b = false → M3 = M' ∧ R (i + 1) acc)) EF) EF) ∧ ∀ acc, R xs.length acc → Q acc) (by
  refine ⟨hst, hl, fun i => R (xs.take i), by simpa using h0, fun i x acc M' hx _ v hM => ?_, fun acc v => fin acc (by simpa using v)⟩
  obtain ⟨e1, e2⟩ := split_at hx
  have := turn (xs.take i) x (xs.drop (i + 1)) acc M' e1 v hM
  simp only [e2]
  exact this))
theorem stepD_eq (lo c : Int) (n : Nat) : stepD lo c n = (List.range n).map fun (j : Nat) => D.int (lo + j * c) := rfl
theorem sz_le {n : Nat} (h : n ≤ 16777216) : n ≤ sizeLine := by rw [show sizeLine = 16777216 from by decide]; exact h
theorem rgc_up {n sz : Nat} (h1 : 1 ≤ sz) (h2 : sz ≤ 1000000) (hn : n ≤ 1000000000) : RgC 0 n sz ((n + sz - 1) / sz) := (by exact HA.Wq.get : @HA.Wq (RgC 0 n sz ((n + sz - 1) / sz)) (by
  have e : Builtin.Range.rangeSize 0 (n : Int) (sz : Int) = ((n + sz - 1) / sz : Nat) := by
    rw [PyProof.Rows.rangeSize_pos (by omega) (by omega)]
    have : ((n : Int) + sz - 1) = ((n + sz - 1 : Nat) : Int) := by omega
    rw [this]; rfl
  have hb : (n + sz - 1) / sz ≤ n + sz := Nat.le_trans (Nat.div_le_self _ _) (by omega)
  refine ⟨by omega, by omega, ?_, e⟩
  unfold Builtin.Range.small
  rw [e]
  have p : ((sz : Int) > 0) = True := eq_true (by omega)
  simp only [Builtin.Range.rangeFitsLong, Bool.and_eq_true, Bool.or_eq_true, decide_eq_true_eq, beq_iff_eq, p, if_true]
  generalize (n + sz - 1) / sz = z at *
  have q : (2 : Int) ^ 63 = 9223372036854775808 := by decide
  omega))
theorem cut_piece {α : Type} {xs : List α} {a k : Nat} : cut xs (some (a : Int)) (some ((a : Int) + k)) = (xs.drop a).take k := (by exact HA.Wq.get : @HA.Wq (cut xs (some (a : Int)) (some ((a : Int) + k)) = (xs.drop a).take k) (by
  unfold cut
  have e : ((a : Int) + k) = ((a + k : Nat) : Int) := by omega
  rw [e, HT.sIx_nat, HT.sIx_nat]
  by_cases h : a ≤ xs.length
  · rw [Nat.min_eq_left h, List.take_eq_take_iff, List.length_drop]; omega
  · rw [List.drop_of_length_le (by omega), List.drop_of_length_le (by omega)]; simp))
theorem cut_to {α : Type} {xs : List α} {k : Nat} : cut xs none (some (k : Int)) = xs.take k := by
  unfold cut
  rw [HT.sIx_nat, HT.sIx_none, List.drop_zero, List.take_eq_take_iff]
  omega
theorem cut_from {α : Type} {xs : List α} {k : Nat} : cut xs (some (k : Int)) none = xs.drop k := (by exact HA.Wq.get : @HA.Wq (cut xs (some (k : Int)) none = xs.drop k) (by
  unfold cut
  rw [HT.sIx_nat, HT.sIx_none]
  by_cases h : k ≤ xs.length
  · rw [Nat.min_eq_left h, List.take_of_length_le (by simp)]
  · rw [List.drop_of_length_le (by omega), List.drop_of_length_le (by omega)]; simp))
@[simp] theorem mset_same' {M : Mem} {a : Addr} {c : Cell} : mset M a c a = some c := mset_same
@[simp] theorem mset_mset' {M : Mem} {a : Addr} {c c' : Cell} : mset (mset M a c) a c' = mset M a c' := mset_mset
@[simp] theorem atI_0 {α : Type} {x : α} {xs : List α} : atI (x :: xs) 0 = some x := by
  unfold atI ixN; simp
@[simp] theorem atI_1 {α : Type} {x y : α} {xs : List α} : atI (x :: y :: xs) 1 = some y := by
  unfold atI ixN
  rw [if_pos (by decide), if_pos (by simp only [List.length_cons]; omega)]; rfl
@[simp] theorem atI_2 {α : Type} {x y z : α} {xs : List α} : atI (x :: y :: z :: xs) 2 = some z := by
  unfold atI ixN
  rw [if_pos (by decide), if_pos (by simp only [List.length_cons]; omega)]; rfl
@[simp] theorem atI_map {α β : Type} {f : α → β} {xs : List α} {i : Int} : atI (xs.map f) i = (atI xs i).map f := by
  unfold atI
  rw [List.length_map]
  cases ixN xs.length i <;> simp
theorem atI_nat {α : Type} {xs : List α} {i : Nat} (h : i < xs.length) : atI xs i = some xs[i] := by
  unfold atI ixN
  rw [if_pos (by omega), if_pos (by omega)]
  simp
theorem atI_some {α : Type} {xs : List α} {i : Int} (h0 : 0 ≤ i) (h : i < xs.length) : ∃ x, atI xs i = some x ∧ x ∈ xs := by
  have e : i = (i.toNat : Int) := by omega
  rw [e, atI_nat (by omega)]
  exact ⟨_, rfl, List.getElem_mem _⟩
@[simp] theorem pick_1 {α : Type} {a : α} : pick [0] [a] = [a] := rfl
@[simp] theorem pick_2 {α : Type} {a b : α} : pick [0, 1] [a, b] = [a, b] := rfl
@[simp] theorem pick_3 {α : Type} {a b c : α} : pick [0, 1, 2] [a, b, c] = [a, b, c] := rfl
@[simp] theorem pick_4 {α : Type} {a b c d : α} : pick [0, 1, 2, 3] [a, b, c, d] = [a, b, c, d] := rfl
theorem isLs_ref {M : Mem} {a : Addr} {xs : List D} (h : M a = some (.lst xs)) : isLs M (.ref a) := ⟨xs, h⟩
@[simp] theorem isLs_new {M : Mem} {a : Addr} {xs : List D} : isLs (mset M a (.lst xs)) (.ref a) ↔ True := iff_true_intro ⟨xs, mset_same⟩
end HA
/-! A15: the drawing functions that the laws share. -/
namespace HA
open PySem PySem.Spec L2
def gOf : ASt := (aRet (aOp bIx (aVar 1) (aCall spAny 2 0 [0, 1] (aCons (aVar 0) (aCons (aCB cLen (aCons (aVar 1) aNil)) aNil)) aNil)))
theorem v_of : ∀ ds M Q E, spOf ds M Q E → gOf (anyE Q E) (startA ["deal", "some"] ds) M := (by exact HA.Wq.get : @HA.Wq (∀ ds M Q E, spOf ds M Q E → gOf (anyE Q E) (startA ["deal", "some"] ds) M) (by
  intro ds M Q E ⟨x, y, xs, h, hd, hy, hx, hl, q⟩
  subst h
  have hp : 0 < xs.length := by cases xs <;> simp_all
  have h9 : (xs.length : Int).natAbs < 2 ^ 9000 := by
    have : (2 : Nat) ^ 20 ≤ 2 ^ 9000 := Nat.pow_le_pow_right (by decide) (by decide)
    have e : (2 : Nat) ^ 20 = 1048576 := by decide
    omega
  have fin : ∀ r : Int, 0 ≤ r → r < xs.length → ∃ d, atI xs r = some d ∧ ∃ M2, MLe M2 M ∧ Q d M2 := fun r h0 h1 => by
    obtain ⟨d, e, hm⟩ := atI_some h0 h1
    exact ⟨d, e, M, .refl M, q d hm⟩
  rcases hy with rfl | rfl | ⟨a, rfl, ha⟩
  · simp [gOf]
    exact ⟨_, _, rfl, hd, ⟨by omega, h9⟩, fun r h0 h1 => by simpa [anyE] using fin r h0 h1⟩
  · simp [gOf]
    exact ⟨_, _, rfl, hd, ⟨by omega, h9⟩, fun r h0 h1 => by simpa [anyE] using fin r h0 h1⟩
  · simp [gOf, ha]
    exact ⟨_, _, rfl, hd, ⟨by omega, h9⟩, fun r h0 h1 => by simpa [anyE, ha] using fin r h0 h1⟩))
/-- deal[0] -/
abbrev gPool : AE := aOp bIx (aVar 0) (aC (.int 0))
abbrev gFull : AT := aTest (aOp oNe gPool (aLstF aNil))
/-- the way to draw; int() ahead of the number that is taken, or behind it -/
def gLast (c : Int) : ASt := aSeq (aAsg (aOp oMod (aCB cInt (aCons (aOp bAddF (aOp oMul (aOp bIx (aVar 0) (aC (.int 1))) (aC (.int 48271))) (aC (.int c))) aNil)) (aC (.int 2147483647))) (agSub (aVar 0) (aC (.int 1))))
  (aRet (aOp oMod (aCB cInt (aCons (aOp oDiv (aOp bIx (aVar 0) (aC (.int 1))) (aC (.int 64))) aNil)) (aVar 1)))
def gTake (w1 w2 : AE → AE) : ASt := aSeq (aAsg (w1 (aMt0 mPop gPool)) (agName 2)) (aSeq (aDrop (aMt mAppend gPool (aCons (aOp oDiv (aVar 2) (aVar 1)) aNil))) (aRet (aOp oMod (w2 (aVar 2)) (aVar 1))))
def gAny (c : Int) (w1 w2 : AE → AE) : ASt :=
  aSeq (aWhile (aAndT gFull (aTest (aOp oEq (aOp bIx gPool (aNeg (aC (.int 1)))) (aC (.int 0))))) (aDrop (aMt0 mPop gPool))) (aSeq (aIf gFull (gTake w1 w2) aNext) (gLast c))
def wInt (t : AE) : AE := aCB cInt (aCons t aNil)
def wId (t : AE) : AE := t
theorem pool_tl {ns : List Int} (h : PoolOk ns) : PoolOk ns.dropLast := ⟨by simp; have := h.1; omega, fun n hn => h.2 n (List.dropLast_subset _ hn)⟩
theorem neq_nil {n : Bool} {M : Mem} {Q : DK} {l : Addr} {ns : List Int} (h : M l = some (.lst (ns.map .int))) (q : Q (.bl (n ^^ decide (ns = []))) M) : bEq n (.ref l) (.lst []) M Q := bEq_lst (xs := ns) (ys := []) (fun _ z => by cases z) h rfl q
theorem v_any (c : Int) (w1 w2 : AE → AE) (hc : 0 ≤ c) (hw1 : ∀ t, w1 t = wInt t ∨ w1 t = t) (hw2 : ∀ t, w2 t = wInt t ∨ w2 t = t) : ∀ ds M Q E, spAnyT ds M Q E → gAny c w1 w2 (anyE Q E) (startA ["deal", "bound", "rest"] ds) M := (by exact HA.Wq.get : @HA.Wq (∀ ds M Q E, spAnyT ds M Q E → gAny c w1 w2 (anyE Q E) (startA ["deal", "bound", "rest"] ds) M) (by
  intro ds M Q E ⟨a, l, n, m, ns, h, hal, ha, hl, hp, hn, hm, q⟩
  subst h
  unfold gAny
  simp only [aSeq]
  refine ⟨fun k σ M' => ∃ ns', k = ns'.length ∧ PoolOk ns' ∧ σ = [some (.ref a), some (.int m), none] ∧ M' = mset M l (.lst (ns'.map .int)), ⟨ns.length, ns, rfl, hp, rfl, (mset_self hl).symm⟩, ?_⟩
  rintro k σ M' ⟨ns', rfl, hp', rfl, rfl⟩
  have ha' : mset M l (.lst (ns'.map .int)) a = some (.lst [.ref l, .int n]) := by rw [mset_ne hal]; exact ha
  have fin : ∀ r n' ns'' M2, 0 ≤ r → r < m → PoolOk ns'' → 0 ≤ n' → n' < 2147483647 → MLe (opn M a l n' ns'') M2 → Q (.int r) M2 := q
  have hlast : ∀ o, gLast c (anyE Q E) [some (.ref a), some (.int m), o] (mset M l (.lst (ns'.map .int))) := fun o => by
    have hr0 := Int.emod_nonneg (n * 48271 + c) (show (2147483647 : Int) ≠ 0 by decide)
    have hr1 := Int.emod_lt_of_pos (n * 48271 + c) (show (0 : Int) < 2147483647 by decide)
    refine ⟨_, _, ha', rfl, MulOk.right (by decide) (by decide), (by show (0 : Int) < 2147483647; decide), _, 1, ha', rfl, _, _, mset_same, rfl, DivOk.small (by decide) (by decide), (by show 0 < m; omega), ?_⟩
    refine ⟨_, .refl _, q _ _ ns' _ (Int.emod_nonneg _ (by omega)) (Int.emod_lt_of_pos _ (by omega)) hp' hr0 hr1 ?_⟩
    unfold opn
    rw [mset_comm hal]
    exact .refl _
  have htake : ns' ≠ [] → gTake w1 w2 { anyE Q E with nx := gLast c (anyE Q E) } [some (.ref a), some (.int m), none] (mset M l (.lst (ns'.map .int))) := fun hne => by
    obtain ⟨y, hy⟩ : ∃ y, ns'[ns'.length - 1]? = some y := get_lt (by have := List.length_pos_iff.mpr hne; omega)
    have hym : y ∈ ns' := List.mem_of_getElem? hy
    have hy0 := hp'.2 y hym
    have ey : (ns'.map D.int)[(ns'.map D.int).length - 1]? = some (.int y) := by simp [hy]
    have ha2 : mset (mset M l (.lst (ns'.map .int))) l (.lst (ns'.map D.int).dropLast) a = some (.lst [.ref l, .int n]) := by rw [mset_ne hal, mset_ne hal]; exact ha
    have pd : PoolOk (ns'.dropLast ++ [y / m]) := by
      refine ⟨by simp; have := hp'.1; omega, fun z hz => ?_⟩
      rcases List.mem_append.mp hz with hz | hz
      · exact (pool_tl hp').2 z hz
      · rw [List.mem_singleton] at hz
        subst hz
        have h0 := Int.ediv_nonneg hy0.1 (show 0 ≤ m by omega)
        have h1 : y / m ≤ y := Int.ediv_le_self _ hy0.1
        exact ⟨h0, Nat.lt_of_le_of_lt (by omega) hy0.2⟩
    have dv : DivOk y m := DivOk.of (b := 9000) hm.1 hm.2 (by decide) (by decide)
    have ed : (ns'.map D.int).dropLast ++ [.int (y / m)] = (ns'.dropLast ++ [y / m]).map D.int := by simp [List.map_dropLast]
    have last : ∀ M2, MLe (opn M a l n (ns'.dropLast ++ [y / m])) M2 → (anyE Q E).rt (.int (y % m)) M2 := fun M2 h => ⟨_, .refl _, q _ n _ _ (Int.emod_nonneg _ (by omega)) (Int.emod_lt_of_pos _ (by omega)) pd hn.1 hn.2 h⟩
    have lm : MLe (opn M a l n (ns'.dropLast ++ [y / m])) (mset (mset (mset M l (.lst (ns'.map .int))) l (.lst (ns'.map D.int).dropLast)) l (.lst ((ns'.map D.int).dropLast ++ [.int (y / m)]))) := by
      rw [ed, mset_mset, mset_mset]
      unfold opn
      rw [mset_self ha]
      exact .refl _
    have back : aSeq (aDrop (aMt mAppend gPool (aCons (aOp oDiv (aVar 2) (aVar 1)) aNil))) (aRet (aOp oMod (w2 (aVar 2)) (aVar 1))) { anyE Q E with nx := gLast c (anyE Q E) } [some (.ref a), some (.int m), some (.int y)] (mset (mset M l (.lst (ns'.map .int))) l (.lst (ns'.map D.int).dropLast)) := by
      refine ⟨_, _, ha2, rfl, ⟨_, mset_same⟩, dv, _, mset_same, ?_, ?_⟩
      · simp; exact Nat.lt_of_lt_of_le (show _ < 16777216 by have := hp'.1; omega) (sz_le (by omega))
      · show aOp oMod (w2 (aVar 2)) (aVar 1) _ _ _ _
        rcases hw2 (aVar 2) with e | e <;> rw [e] <;> exact ⟨hm.1, last _ lm⟩
    show w1 (aMt0 mPop gPool) _ _ _ _
    rcases hw1 (aMt0 mPop gPool) with e | e <;> rw [e] <;> exact ⟨_, _, ha', rfl, _, _, mset_same, ey, back⟩
  have hif : (aIf gFull (gTake w1 w2) aNext) { anyE Q E with nx := gLast c (anyE Q E) } [some (.ref a), some (.int m), none] (mset M l (.lst (ns'.map .int))) := by
    refine ⟨_, _, ha', rfl, (by decide), neq_nil (ns := ns') mset_same ?_⟩
    exact ⟨fun h => htake (by simpa using h), fun h => hlast _⟩
  refine ⟨_, _, ha', rfl, (by decide), neq_nil (ns := ns') mset_same ⟨fun h => ?_, fun h => ⟨fun z => (by cases z), fun _ => hif⟩⟩⟩
  have hne : ns' ≠ [] := by simpa using h
  obtain ⟨y, hy⟩ : ∃ y, ns'[ns'.length - 1]? = some y := get_lt (by have := List.length_pos_iff.mpr hne; omega)
  have ey : (ns'.map D.int)[(ns'.map D.int).length - 1]? = some (.int y) := by simp [hy]
  have ea : atI (ns'.map D.int) (-1) = some (.int y) := by
    unfold atI ixN
    have hl0 := List.length_pos_iff.mpr hne
    rw [if_neg (by decide), List.length_map, if_pos (by omega)]
    have : (-1 + (ns'.length : Int)).toNat = ns'.length - 1 := by omega
    show (ns'.map D.int)[(-1 + (ns'.length : Int)).toNat]? = _
    rw [this]; simp [hy]
  refine ⟨_, _, ha', rfl, _, _, mset_same, ea, ⟨fun h => ?_, fun _ => hif⟩⟩
  refine ⟨_, _, ha', rfl, _, _, mset_same, ey, ns'.dropLast.length, ?_, ns'.dropLast, rfl, pool_tl hp', rfl, ?_⟩
  · have hl0 := List.length_pos_iff.mpr hne
    simp; omega
  · rw [mset_mset, List.map_dropLast]))

/-! ### the deal is made -/
def gSrc (ti : AE) (md k : Int) : ASt :=
  aSeq (aAsg (aLcF (aWalk (aSlF (aVar 0) aNoPart (aPart (aC (.int 63))))) (agName 2) aYes (aCB (c1I absI) (aCons (aCB cInt (aCons (aVar 2) aNil)) aNil)) [2]) (agName 3))
    (aSeq (aAsg ti (agName 4))
      (aSeq (aFor (aWalk (aVar 3)) (agName 2) (aAsg (aOp oMod (aCB cInt (aCons (aOp bAddF (aOp bAddF (aOp oMul (aVar 4) (aC (.int 48271))) (aOp oMod (aVar 2) (aC (.int md)))) (aC (.int k))) aNil)) (aC (.int 2147483647))) (agName 4)))
        (aRet (aLst (aCons (aRev (aLcF (aWalk (aVar 3)) (agName 2) (aTest (aOp oGe (aVar 2) (aOp oPow (aC (.int 10)) (aC (.int 18))))) (aVar 2) [2])) (aCons (aVar 4) aNil))))))
theorem absI_ok {z : Int} : 0 ≤ absI z ∧ (absI z).natAbs = z.natAbs := (by exact HA.Wq.get : @HA.Wq (0 ≤ absI z ∧ (absI z).natAbs = z.natAbs) (by
  unfold absI
  by_cases h : z < 0
  · rw [if_pos h]; omega
  · rw [if_neg h]; omega))
theorem pow18 : CPow 10 18 := by unfold CPow; decide
theorem v_src (ti : AE) (md k : Int) (hmd : 0 < md) (hti : ∀ ns b cs M Q E, 0 ≤ b → b < 1000 → (∀ i : Int, 0 ≤ i → i < 2147483647 → Q (.int i) M) → ti [some (.frz ns), some (.int b), none, some cs, none] M Q E) :
    ∀ ds M Q E, spSrcT ds M Q E → gSrc ti md k (anyE Q E) (startA ["script", "salt", "cell", "cells", "blend"] ds) M := (by exact HA.Wq.get : @HA.Wq (∀ ds M Q E, spSrcT ds M Q E → gSrc ti md k (anyE Q E) (startA ["script", "salt", "cell", "cells", "blend"] ds) M) (by
  intro ds M Q E ⟨ns, b, h, hl, hbd, hb, q⟩
  subst h
  have hcut : cut (ns.map D.int) none (some 63) = ns.map D.int := by
    have := cut_to (xs := ns.map D.int) (k := 63)
    rw [show (some ((63 : Nat) : Int)) = some 63 from rfl] at this
    rw [this, List.take_of_length_le (by simpa using hl)]
  unfold gSrc
  refine ⟨_, rfl, _, rfl, ?_⟩
  refine lcF_fold (xs := cut (ns.map D.int) none (some 63)) (fun _ _ => ?_) (by rw [hcut]; simp; exact sz_le (by omega)) (fun pre acc => ∃ zs : List Int, pre = zs.map D.int ∧ acc = (zs.map absI).map D.int) ⟨[], rfl, rfl⟩ ?_ ?_
  · trivial
  · rintro pre x rest acc M' e ⟨zs, rfl, rfl⟩ hM
    rw [hcut] at e
    obtain ⟨ps, n, rs, e1, e2, rfl, e4⟩ := map_split e
    refine ⟨fun _ => ⟨rfl, zs ++ [n], by simp, by simp⟩, fun z => (by cases z)⟩
  rw [hcut]
  rintro acc ⟨zs, e, rfl⟩
  have e : ns = zs := by
    have := congrArg (List.map fun d => match d with | D.int i => i | _ => 0) e
    simpa [List.map_map, Function.comp_def] using this
  subst e
  refine hti _ _ _ _ _ _ hb.1 hb.2 fun i hi0 hi1 => ?_
  have hcs : ∀ z ∈ ns.map absI, 0 ≤ z ∧ z.natAbs < 2 ^ big := fun z hz => by
    obtain ⟨y, hy, rfl⟩ := List.mem_map.mp hz
    exact ⟨absI_ok.1, by rw [absI_ok.2]; exact hbd y hy⟩
  have hlc : (ns.map absI).length ≤ 63 := by simpa using hl
  generalize ns.map absI = cs at hcs hlc
  refine ⟨_, rfl, ?_⟩
  refine for_fold (xs := cs.map D.int) (fun pre σ M' => M' = M ∧ ∃ (i : Int) (o : Option D), (0 ≤ i ∧ i < 2147483647) ∧ σ = [some (.frz (ns.map D.int)), some (.int b), o, some (.lst (cs.map D.int)), some (.int i)]) ⟨rfl, i, none, ⟨hi0, hi1⟩, rfl⟩ ?_ ?_
  · rintro pre x rest e σ M' ⟨hM, i, o, hi, hσ⟩
    subst hσ
    obtain ⟨ps, n, rs, e1, e2, rfl, e4⟩ := map_split e
    refine ⟨trivial, MulOk.right (by decide) (by decide), hmd, (by show (0 : Int) < 2147483647; decide), hM, _, _, ⟨Int.emod_nonneg _ (by decide), Int.emod_lt_of_pos _ (by decide)⟩, rfl⟩
  · rintro σ M' ⟨hM, i, o, hi, hσ⟩
    subst hσ
    subst hM
    refine ⟨trivial, _, rfl, ?_⟩
    refine lcF_fold (xs := cs.map D.int) (fun _ _ => ?_) (by simp; exact sz_le (by omega)) (fun pre acc => ∃ zs : List Int, acc = zs.map D.int ∧ zs.length ≤ pre.length ∧ ∀ z ∈ zs, z ∈ cs) ⟨[], rfl, by simp, by simp⟩ ?_ ?_
    · trivial
    · rintro pre x rest acc M2 e ⟨zs, rfl, hz1, hz2⟩ hM
      obtain ⟨ps, n, rs, e1, e2, rfl, e4⟩ := map_split e
      refine ⟨pow18, fun _ => ⟨rfl, zs ++ [n], by simp, by simp; omega, fun z hz => ?_⟩, fun _ => ⟨rfl, zs, rfl, by simp; omega, hz2⟩⟩
      rcases List.mem_append.mp hz with hz | hz
      · exact hz2 z hz
      · rw [List.mem_singleton] at hz; subst hz; rw [e1]; simp
    · rintro acc ⟨zs, rfl, hz1, hz2⟩
      refine ⟨_, rfl, fun l hl0 => ⟨sz_le (by simp), fun a ha0 => ?_⟩⟩
      have nal : a ≠ l := fun z => by subst z; rw [mset_same] at ha0; cases ha0
      have ha1 : M' a = none := by rw [mset_ne nal] at ha0; exact ha0
      refine ⟨_, .refl _, q a l i zs.reverse _ nal ha1 hl0 (.new2 ha0 (.new hl0)) mset_same ?_ ⟨?_, fun z hz => hcs z (hz2 z (by simpa using hz))⟩ hi.1 hi.2⟩
      · rw [mset_ne (Ne.symm nal), mset_same, List.map_reverse]
      · simp at hz1 ⊢; omega))
end HA
namespace HA
open PySem PySem.Spec PyProof.Rows L2
open PySem.AutoSeq1 (wpAny_loadPart')
theorem tuple_mul1 (l : Addr) (items : Array Value) (n : Nat) (dd : Option Addr) (sl : Array (Option Value)) (x : Int) (u : Tok) (c0 : (decide (x < -(2 ^ 63)) || decide (x ≥ 2 ^ 63)) = false) (c1 : (items.isEmpty || x == 1) = true) :
    Meets (Builtin.«tuple.__mul__» ⟨[.ref l, .int x u], []⟩) (fun _ R s => s.heap.get? l = some { cls := .type "tuple", dict := dd, data := .seq items n, slots := sl } ∧ R (.ok (.ret (Value.ref l))) { s with toks := s.toks }) :=
  .of_wp fun prog w A R s h => by
    obtain ⟨hp, g, d, tk, os⟩ := s
    obtain ⟨hl, h⟩ := h
    have f1 := AutoSeq1.idx_int
    wp_walk using wpAny_loadPart' hl
    repeat (first
      | (refine wpAny_ite_false (decide_eq_false (by rw [c0]; exact Bool.false_ne_true)) ?_; wp_walk using wpAny_loadPart' hl)
      | (refine wpAny_ite_true (decide_eq_true c1) ?_; wp_walk using wpAny_loadPart' hl))
    exact ⟨_, rfl, h⟩
theorem tuple_mul0 (l : Addr) (items : Array Value) (n : Nat) (dd : Option Addr) (sl : Array (Option Value)) (x : Int) (u : Tok) (c0 : (decide (x < -(2 ^ 63)) || decide (x ≥ 2 ^ 63)) = false) (c1 : (items.isEmpty || x == 1) = false) (c2 : (decide (x ≤ 0) || items.isEmpty) = true) :
    Meets (Builtin.«tuple.__mul__» ⟨[.ref l, .int x u], []⟩) (fun _ R s => s.heap.get? l = some { cls := .type "tuple", dict := dd, data := .seq items n, slots := sl } ∧
      R (.ok (.ret (Value.ref s.heap.objs.size))) { s with heap := s.heap.push { cls := Value.type "tuple", data := Data.seq #[] }, toks := s.toks }) :=
  .of_wp fun prog w A R s h => by
    obtain ⟨hp, g, d, tk, os⟩ := s
    obtain ⟨hl, h⟩ := h
    have f1 := AutoSeq1.idx_int
    wp_walk using wpAny_loadPart' hl
    repeat (first
      | (refine wpAny_ite_false (decide_eq_false (by rw [c0]; exact Bool.false_ne_true)) ?_; wp_walk using wpAny_loadPart' hl)
      | (refine wpAny_ite_false (decide_eq_false (by rw [c1]; exact Bool.false_ne_true)) ?_; wp_walk using wpAny_loadPart' hl)
      | (refine wpAny_ite_true (decide_eq_true c2) ?_; wp_walk using wpAny_loadPart' hl))
    exact ⟨_, rfl, h⟩
section
variable {X : Cx}
/-- a tuple times an int -/
def rRepA (K : PySem.W.Frag) : R2 := fun x y H Q => ∃ l k xs, x = .ref l ∧ y = .int k ∧ SqT K H l xs ∧ -(2 ^ 62) ≤ k ∧ k ≤ 1000 ∧ xs.length ≤ 1000 ∧ (xs = [] ∨ k = 1 → Q (.ref l) H) ∧ (xs ≠ [] → k ≠ 1 → ∀ p, H p = none → Q (.ref p) (upd H p (.tup (List.replicate k.toNat xs).flatten)))
theorem op_repA : OpR X (binaryOp .Mult) (rRepA X.K) := (by exact HA.Wq.get : @HA.Wq (OpR X (binaryOp .Mult) (rRepA X.K)) (by
  intro pins s σ H x y v u Q I rx ry h
  obtain ⟨l, k, xs, rfl, rfl, hT, h1, h2, hz, q1, q2⟩ := h
  have e62 : (2 : Int) ^ 62 = 4611686018427387904 := by decide
  have e63 : (2 : Int) ^ 63 = 9223372036854775808 := by decide
  by_cases hk : xs = [] ∨ k = 1 ∨ k ≤ 0
  · cases rx
    obtain ⟨t, rfl⟩ := ry
    obtain ⟨its, r, ⟨⟨cls, dd, data, sl⟩, ho, hc, n, hd⟩, hs⟩ := I.tuple hT
    simp only at hc hd
    subst hc hd
    have hle : its.length = xs.length := r.length.symm
    have c0 : (decide (k < -(2 ^ 63)) || decide (k ≥ 2 ^ 63)) = false := by
      rw [decide_eq_false (by omega), decide_eq_false (by omega)] <;> rfl
    by_cases h1k : xs = [] ∨ k = 1
    · have c1 : (its.toArray.isEmpty || k == 1) = true := by
        rcases h1k with e | e
        · have : its = [] := List.eq_nil_of_length_eq_zero (by rw [hle, e]; rfl)
          subst this; rfl
        · subst e; simp
      refine wpAny_binaryOp_repeat_ref (T := "tuple") (U := "int") (by decide) ⟨_, ho, rfl⟩ (fun s' => typeIs_int s' k t) noFill_tuple_mul F.fills_int_mul F.slot_int_rmul repeat_tuple F.slot_int_index.lookup
        (call_meets F.slot_int_rmul (typeIs_int s k t) F.entry_int_rmul (F.args_int_rmul_2 _ _) (int_rmul_tuple k t l its.toArray n dd sl)
          ⟨ho, rfl, ⟨_, ho, rfl⟩, call_meets F.slot_tuple_mul ⟨_, ho, rfl⟩ F.entry_tuple_mul (F.args_tuple_mul_2 _ _) (tuple_mul1 l its.toArray n dd sl k t c0 c1) ⟨ho, ?_⟩⟩)
      exact ⟨.ref l, H, I, rfl, q1 h1k⟩
    · have hne : xs ≠ [] := fun e => h1k (.inl e)
      have hk1 : k ≠ 1 := fun e => h1k (.inr e)
      have hk0 : k ≤ 0 := by
        rcases hk with e | e | e
        · exact absurd e hne
        · exact absurd e hk1
        · exact e
      have hi : its.toArray.isEmpty = false := by
        cases its with
        | nil => exact absurd (List.eq_nil_of_length_eq_zero hle.symm) hne
        | cons a b => rfl
      have c1 : (its.toArray.isEmpty || k == 1) = false := by
        rw [hi, Bool.false_or]; exact beq_eq_false_iff_ne.mpr hk1
      have c2 : (decide (k ≤ 0) || its.toArray.isEmpty) = true := by rw [decide_eq_true hk0]; rfl
      refine wpAny_binaryOp_repeat_ref (T := "tuple") (U := "int") (by decide) ⟨_, ho, rfl⟩ (fun s' => typeIs_int s' k t) noFill_tuple_mul F.fills_int_mul F.slot_int_rmul repeat_tuple F.slot_int_index.lookup
        (call_meets F.slot_int_rmul (typeIs_int s k t) F.entry_int_rmul (F.args_int_rmul_2 _ _) (int_rmul_tuple k t l its.toArray n dd sl)
          ⟨ho, rfl, ⟨_, ho, rfl⟩, call_meets F.slot_tuple_mul ⟨_, ho, rfl⟩ F.entry_tuple_mul (F.args_tuple_mul_2 _ _) (tuple_mul0 l its.toArray n dd sl k t c0 c1 c2) ⟨ho, ?_⟩⟩)
      have q := q2 hne hk1
      have e0 : k.toNat = 0 := by omega
      rw [e0] at q
      exact ⟨.ref s.heap.objs.size, _, I.laid (t' := s.toks) (o := .tup []) (fun b ob q => Heap.get?_push_of_some _ q) (Nat.le_refl _) ⟨Nat.zero_le _, [], .nil, IsTup.new _ _⟩, rfl, q _ (I.hok.fresh (Nat.le_refl _))⟩
  · have hne : xs ≠ [] := fun e => hk (.inl e)
    exact op_repT pins s σ H _ _ v u Q I rx ry ⟨l, k, xs, rfl, rfl, hT, hne, by omega, h2, hz, q2 hne (by omega)⟩))
end
def bMul2 : A2 := fun x y M Q => match x, y with
  | .int i, .int j => MulOk i j ∧ Q (.int (i * j)) M
  | .tup xs, .int k => (-(2 ^ 62) ≤ k ∧ k ≤ 1000) ∧ xs.length ≤ 1000 ∧ Q (.tup (List.replicate k.toNat xs).flatten) M
  | _, _ => False
theorem bMul2_ok {K : PySem.W.Frag} : OkR K bMul2 (fun x y H Q => (rI MulOk fun i j => .int (i * j)) x y H Q ∨ rRepA K x y H Q) := fun G M H x y xv yv Q R m rx ry h k => by
  unfold bMul2 at h
  split at h
  · cases rx; cases ry
    exact .inl ⟨_, _, rfl, rfl, h.1, k _ _ (.here m (.int _) h.2)⟩
  · rename_i xs n
    obtain ⟨a, vs, rfl, p, t⟩ := rp_tup rx
    cases ry
    obtain ⟨⟨h1, h2⟩, h3, q⟩ := h
    refine .inr ⟨a, _, vs, rfl, rfl, same_sqt m.same p, h1, h2, by rw [← t.len]; exact h3, fun e => ?_, fun _ _ p hp => Kv.tup m k (t.rep _) hp q⟩
    have : (List.replicate n.toNat xs).flatten = xs := by
      rcases e with e | e
      · subst e; cases t; simp
      · subst e; simp
    rw [this] at q
    exact k _ _ (.here m rx q)
  · exact h.elim
section
variable {X : Cx} {B : Hp} {W : WX} {a b : Expr} {ta tb : AE} {pos : Pos}
theorem qe_mul2 (ha : QE X B W a ta) (hb : QE X B W b tb) : QE X B W (.BinOp a .Mult b pos) (aOp bMul2 ta tb) := qe_op (op_mulO.or op_repA) bMul2_ok ha hb
/-- what is never reached -/
def aDead : ASt := fun _ _ _ => False
theorem qs_dead {st : Stmt} : QS X B W st aDead := ⟨fun pins s σ H D I ⟨_, _, _, _, _, h, _⟩ => h.elim⟩
end
end HA
/-! A17: plain lemmas and defs that many laws share. -/
namespace HA
open PySem PySem.Spec L2
def tI (ns : List Int) : D := .tup (ns.map .int)
def Oct (ns : List Int) : Prop := ∀ n ∈ ns, 0 ≤ n ∧ n < 256
/-- the number of octets, the lowest first -/
def numOf (ns : List Int) : Int := ns.foldr (fun o t => 256 * t + o) 0
theorem int_inj {xs ys : List Int} : List.map D.int xs = List.map D.int ys ↔ xs = ys := (by exact HA.Wq.get : @HA.Wq (List.map D.int xs = List.map D.int ys ↔ xs = ys) (by
  constructor
  · intro h
    have := congrArg (List.map fun d => match d with | D.int i => i | _ => 0) h
    simpa [List.map_map, Function.comp_def] using this
  · rintro rfl; rfl))
theorem tI_inj {a b : List Int} (h : tI a = tI b) : a = b := int_inj.mp (by injection h)
theorem Oct.app {a b : List Int} (h : Oct a) (k : Oct b) : Oct (a ++ b) := fun n hn => (List.mem_append.mp hn).elim (h n) (k n)
theorem Oct.take {a : List Int} {n : Nat} (h : Oct a) : Oct (a.take n) := fun m hm => h m (List.mem_of_mem_take hm)
theorem Oct.drop {a : List Int} {n : Nat} (h : Oct a) : Oct (a.drop n) := fun m hm => h m (List.mem_of_mem_drop hm)
theorem Oct.one {n : Int} (h : 0 ≤ n) (k : n < 256) : Oct [n] := fun m hm => by rw [List.mem_singleton] at hm; subst hm; exact ⟨h, k⟩
theorem Oct.zeros (n : Nat) : Oct (List.replicate n 0) := fun m hm => by rw [List.eq_of_mem_replicate hm]; decide
theorem Oct.small {ns : List Int} (h : Oct ns) : SmallI ns := fun n hn => by
  have := h n hn
  have e : (2 : Nat) ^ 8 ≤ 2 ^ 1920 := Nat.pow_le_pow_right (by decide) (by decide)
  have e2 : (2 : Nat) ^ 8 = 256 := by decide
  omega
theorem num_bd : ∀ {ns : List Int}, Oct ns → 0 ≤ numOf ns ∧ numOf ns < 256 ^ ns.length
  | [], _ => by simp [numOf]
  | n :: r, h => by
    have ih := num_bd (ns := r) fun m hm => h m (List.mem_cons_of_mem _ hm)
    have h0 := h n List.mem_cons_self
    have e : numOf (n :: r) = 256 * numOf r + n := rfl
    have e2 : (256 : Int) ^ (n :: r).length = 256 * 256 ^ r.length := by rw [List.length_cons, Int.pow_succ]; omega
    rw [e, e2]
    generalize (256 : Int) ^ r.length = z at *
    omega
theorem num_snoc {ns : List Int} {n : Int} : numOf (ns ++ [n]) = numOf ns + 256 ^ ns.length * n := (by exact HA.Wq.get : @HA.Wq (numOf (ns ++ [n]) = numOf ns + 256 ^ ns.length * n) (by
  induction ns with
  | nil => simp [numOf]
  | cons m r ih =>
    have e : numOf (m :: r) = 256 * numOf r + m := rfl
    have e1 : numOf (m :: r ++ [n]) = 256 * numOf (r ++ [n]) + m := rfl
    have e2 : (256 : Int) ^ (m :: r).length = 256 * 256 ^ r.length := by rw [List.length_cons, Int.pow_succ]; omega
    rw [e1, ih, e, e2]
    generalize (256 : Int) ^ r.length = z at *
    grind))
theorem na_lt {i : Int} {n : Nat} (h0 : 0 ≤ i) (h : i < 2 ^ n) : i.natAbs < 2 ^ n := by
  have e : ((2 ^ n : Nat) : Int) = 2 ^ n := by norm_cast
  omega
theorem dr_ok {m : Int} (h0 : 0 < m) (h : m < 1606938044258990275541962092341162602522202993782792835301376) : 0 < m ∧ m.natAbs < 2 ^ 9000 := (by exact HA.Wq.get : @HA.Wq (0 < m ∧ m.natAbs < 2 ^ 9000) (by
  have e : (2 : Nat) ^ 200 ≤ 2 ^ 9000 := Nat.pow_le_pow_right (by decide) (by decide)
  have e2 : (2 : Nat) ^ 200 = 1606938044258990275541962092341162602522202993782792835301376 := by decide
  refine ⟨h0, Nat.lt_of_lt_of_le ?_ e⟩
  rw [e2]; omega))
theorem sm200 {z : Int} (h0 : 0 ≤ z) (h : z < 2 ^ 200) : z.natAbs < 2 ^ 1920 := Nat.lt_of_lt_of_le (na_lt h0 h) (Nat.pow_le_pow_right (by decide) (by decide))
theorem ne_self {α : Type} [DecidableEq α] {x y : α} (e : x = y) (h : (true ^^ decide (x = y)) = true) : False := by
  subst e; simp at h
theorem add_ok {ns : List Int} {z : Int} {k : Nat} (hl : ns.length = k) (ho : Oct ns) (h0 : 0 ≤ z) (h1 : z < 256) : ∃ ns' : List Int, ns.map D.int ++ [.int z] = ns'.map .int ∧ ns'.length = k + 1 ∧ Oct ns' := ⟨ns ++ [z], by simp, by simp [hl], ho.app (.one h0 h1)⟩
/-! ### the number of octets -/
def gNum : ASt := aSeq (aAsg (aC (.int 0)) (agName 1)) (aSeq (aFor (aWalk (aRevF (aVar 0))) (agName 2) (aAsg (aOp bAddF (aOp oMul (aC (.int 256)) (aVar 1)) (aVar 2)) (agName 1))) (aRet (aVar 1)))
def spNum : ASp := fun ds M Q _ => ∃ ns : List Int, ds = [tI ns] ∧ Q (.int (numOf ns)) M
theorem v_num : ∀ ds M Q E, spNum ds M Q E → gNum (pureE M Q E) (startA ["octets", "total", "octet"] ds) M := (by exact HA.Wq.get : @HA.Wq (∀ ds M Q E, spNum ds M Q E → gNum (pureE M Q E) (startA ["octets", "total", "octet"] ds) M) (by
  intro ds M Q E ⟨ns, h, q⟩
  subst h
  unfold gNum
  refine for_fold (xs := (ns.map D.int).reverse) (fun pre σ M' => M' = M ∧ ∃ (ms : List Int) (o : Option D), pre = ms.map D.int ∧ σ = [some (tI ns), some (.int (numOf ms.reverse)), o]) ⟨rfl, [], none, rfl, rfl⟩ ?_ ?_
  · rintro pre x rest e σ M' ⟨hM, ms, o, hpre, hσ⟩
    subst hσ
    rw [← List.map_reverse] at e
    obtain ⟨ps, n, rs, e1, e2, rfl, e4⟩ := map_split e
    exact ⟨trivial, MulOk.left (by decide) (by decide), hM, ms ++ [n], some (.int n), by rw [hpre]; simp, by rw [List.reverse_append]; rfl⟩
  · rintro σ M' ⟨hM, ms, o, hpre, hσ⟩
    subst hσ
    rw [← List.map_reverse, int_inj] at hpre
    subst hM
    rw [← hpre, List.reverse_reverse]
    exact ⟨trivial, .refl _, q⟩))
/-! ### drawn octets, all alike now and then -/
def gOct : ASt := aSeq (aAsg (aCall spAny 2 0 [0, 1] (aCons (aVar 0) (aCons (aC (.int 8)) aNil)) aNil) (agName 2))
  (aRet (aCB cTuple (aCons (aLcF (aRng1 (aCons (aVar 1) aNil)) (agName 3) aYes (aIfE (aTest (aOp oLt (aVar 2) (aC (.int 2)))) (aOp oMul (aC (.int 255)) (aVar 2)) (aCall spAny 2 0 [0, 1] (aCons (aVar 0) (aCons (aC (.int 256)) aNil)) aNil)) [3]) aNil)))
def spOct : ASp := fun ds M Q _ => ∃ (x : D) (m : Nat), ds = [x, .int m] ∧ Deal M x ∧ m ≤ 100000 ∧ ∀ ns, ns.length = m → Oct ns → Q (tI ns) M
theorem v_oct : ∀ ds M Q E, spOct ds M Q E → gOct (pureE M Q E) (startA ["deal", "many", "kind", "turn"] ds) M := (by exact HA.Wq.get : @HA.Wq (∀ ds M Q E, spOct ds M Q E → gOct (pureE M Q E) (startA ["deal", "many", "kind", "turn"] ds) M) (by
  intro ds M Q E ⟨x, m, h, hd, hm, q⟩
  subst h
  refine ⟨rfl, rfl, x, 8, rfl, hd, dr_ok (by decide) (by decide), fun kd k0 k8 => ?_⟩
  refine ⟨⟨by omega, by omega⟩, ?_⟩
  have e0 : ((m : Int)).toNat = m := by omega
  refine lcF_fold (xs := rangeD 0 ((m : Int)).toNat) (fun _ _ => ?_) (by rw [rangeD_len]; exact sz_le (by omega)) (fun pre acc => ∃ ns : List Int, acc = ns.map .int ∧ ns.length = pre.length ∧ Oct ns) ⟨[], rfl, rfl, fun _ h => nomatch h⟩ ?_ ?_
  · trivial
  · rintro pre y rest acc M' e ⟨ns, rfl, hl, ho⟩ hM
    have el : (pre ++ [y]).length = pre.length + 1 := by simp
    rw [el]
    obtain ⟨ps, n, rs, e1, e2, rfl, e4⟩ := map_split ((rangeD_eq _ _).symm.trans e)
    refine ⟨fun _ => ⟨fun h => ⟨MulOk.left (by decide) (by decide), rfl, add_ok hl ho ?_ ?_⟩, fun _ => ⟨rfl, rfl, x, 256, rfl, hd.up hM, dr_ok (by decide) (by decide), fun r r0 r1 => ⟨rfl, add_ok hl ho r0 r1⟩⟩⟩, fun z => nomatch z⟩
    · omega
    · have := of_decide_eq_true h; omega
  · rintro acc ⟨ns, rfl, hl, ho⟩
    refine ⟨_, rfl, .refl M, q ns ?_ ho⟩
    rw [hl, rangeD_len, e0]))
end HA
/-! A18: more names; ranges from anywhere. -/
namespace HA
open PySem PySem.Spec L2
abbrev cMax : AC := c2I fun i j => if j > i then j else i
abbrev cMin : AC := c2I fun i j => if j < i then j else i
/-- range(lo, hi, sz), upwards -/
theorem rgc_from {lo hi : Int} {sz : Nat} (h1 : 1 ≤ sz) (h2 : sz ≤ 1000000) (hl : -1000000000 ≤ lo ∧ lo ≤ 1000000000) (hh : -1000000000 ≤ hi ∧ hi ≤ 1000000000) : ∃ n : Nat, RgC lo hi sz n ∧ ((n : Int) = if lo < hi then (hi - lo - 1) / sz + 1 else 0) := (by exact HA.Wq.get : @HA.Wq (∃ n : Nat, RgC lo hi sz n ∧ ((n : Int) = if lo < hi then (hi - lo - 1) / sz + 1 else 0)) (by
  have p : ((sz : Int) > 0) := by omega
  have e : Builtin.Range.rangeSize lo hi (sz : Int) = if lo < hi then (hi - lo - 1) / sz + 1 else 0 := by
    unfold Builtin.Range.rangeSize
    rw [if_pos p]
  have b0 : 0 ≤ (if lo < hi then (hi - lo - 1) / (sz : Int) + 1 else 0) := by
    split
    · have := Int.ediv_nonneg (show 0 ≤ hi - lo - 1 by omega) (show (0 : Int) ≤ sz by omega)
      omega
    · omega
  have b1 : (if lo < hi then (hi - lo - 1) / (sz : Int) + 1 else 0) ≤ 2000000001 := by
    split
    · have := Int.ediv_le_self (sz : Int) (show 0 ≤ hi - lo - 1 by omega)
      omega
    · omega
  refine ⟨(if lo < hi then (hi - lo - 1) / (sz : Int) + 1 else 0).toNat, ⟨by omega, by omega, ?_, by rw [e]; omega⟩, by omega⟩
  unfold Builtin.Range.small
  rw [e]
  have pt : ((sz : Int) > 0) = True := eq_true p
  simp only [Builtin.Range.rangeFitsLong, Bool.and_eq_true, Bool.or_eq_true, decide_eq_true_eq, beq_iff_eq, pt, if_true]
  have q : (2 : Int) ^ 63 = 9223372036854775808 := by decide
  generalize (if lo < hi then (hi - lo - 1) / (sz : Int) + 1 else 0) = z at *
  omega))
end HA
/-! A19: methods, new instances. -/
namespace HA
open PySem PySem.Spec L2
theorem make_guards {A : Around} {C : Addr} {us : List Value} {kw : List (Str × Value)} (h : A.guards = some []) : (A.under (.builtin "type.__call__" ⟨.ref C :: us, kw⟩)).guards = some [] := by
  first | exact h | (simp [Around.under, Code.weight, Code.isCreation, Code.isGuard, Code.isCaller, Code.frames, Code.isFrame, guardIds, h]; done) | (simp [Around.under, pushGuards, h]; done)
section
variable {X : Cx} {B : Hp} {W : WX} {k n : Nat} {f C : Addr} {fd : FuncData} {ps ks : List Str} {sp : ASp} {pm : List Nat} {x m : Str} {p pos apos : Pos} {e o : Expr} {es : List Expr} {kws : List Keyword} {ta : AE} {tas tks : AA}
/-- o.m(e, ..) of a class of the module -/
def aMeth (C : Addr) (m : Str) (sp : ASp) (n : Nat) (pm : List Nat) (to : AE) (ta : AA) : AE := fun σ M Q E => to σ M (fun x M1 => match x with
  | .ref a => ∃ fs, M1 a = some (.ins C fs) ∧ fs.lookup m = none ∧ ta σ M1 (fun us M2 => us.length = n ∧ sp (pick pm (.ref a :: us)) M2 Q (E σ)) E
  | _ => False) E
/-- a method as its callers see it -/
structure CalM (P : Program) (w : World) (K : PySem.W.Frag) (mg : Str → Option Value) (base : Heap) (k : Nat) (C : Addr) (m qual : Str) (st : Stmt) (ps : List Str) (sp : ASp) : Prop where
  ex : ∃ f fd, Fun K m qual st f fd ∧ Meth K C m f ∧ FA P w K mg base k f fd ps sp
theorem Bds.of' {qual : Str} {st : Stmt} (b : Bds x qual st ps n ks pm) {K : PySem.W.Frag} (F : Fun K x qual st f fd) : Bnd fd ps n ks pm := by
  obtain ⟨oc, od, kV, doc, pm', an, cdv, ct, osl, rfl, _, _⟩ := F.ex
  exact b _ _ _ _ _ _
theorem qe_meth {pl : Sem Bool} {qual : Str} {st : Stmt} (he : QE X B W o ta) (cl : Cls X.K C) (c : CalM X.prog X.w X.K X.mg X.base k C m qual st ps sp) (hr : Room k X.A) (hg : X.A.guards = some []) (tk : Takes X W) (b : Bds m qual st ps (n + 1) [] pm) (ha : QA X B W (e :: es) tas)
    (hst : starEach (e :: es) X.env = (false, eval e X.env) :: starEach es X.env := by rfl) (hpl : (backTo pos (starEach es X.env)).any (·.1) = false := by rfl)
    (ht : eval (.Call (.Attribute o m apos) (e :: es) [] pos) X.env = (do
      let ov ← eval o X.env
      standAt apos.atName
      let (f, first) ← holding [ov] (getMethod ov m pl)
      callWith pos f first (backTo pos (starEach (e :: es) X.env)) (backToKw pos (keywordEach [] X.env))) := by rfl) :
    QE X B W (.Call (.Attribute o m apos) (e :: es) [] pos) (aMeth C m sp n pm ta tas) := by
  obtain ⟨f, fd, hF, hm, F⟩ := c.ex
  have bn := b.of' hF
  refine ⟨fun pins s σ' H R I ⟨G, σ, M, Q, E, ss, h, kq, kx⟩ => ?_⟩
  refine PySem.W.methodCall_KW (pl := pl) (thn (he.run pins s σ' H (Kv X.K G _) I ⟨G, σ, M, _, E, ss, h, fun v H' kv => kv, kx⟩) fun u s1 ⟨x, H1, I1, rx, d, M1, G1, e1, m1, r1, q1⟩ => ?_) ht
  match d, q1 with
  | .ref a, ⟨fs, h1, hl, q1⟩ =>
    obtain ⟨_, dx, vs, fr, eH⟩ := m1.cell a _ h1
    cases r1
    obtain rfl : u = Value.ref a := rx
    refine getmeth_ok I1 eH cl hm (fr.nolook hl) ?_
    refine PySem.W.callWith_K (first := [.ref a]) (h₀ := X.base) I.ok.mod.kin hm.kp (thn (ha.run pos pins s1 σ' H1 (fun vs H1 => ∃ ds M2 G2, Same G1 G2 ∧ SM X.K G2 M2 H1 ∧ RpA X.K G2 ds vs ∧ _) I1 ⟨G1, σ, M1, _, E, ss.with e1 m1, q1, fun vs H1 ds M1 G1 e1 m1 r1 q1 => ⟨ds, M1, G1, e1, m1, r1, q1⟩, kx⟩) fun us s2 ⟨vs', H2, I2, r, ds, M2, G2, e2, m2, r2, l2, q2⟩ => ⟨I2.kIn, ?_⟩) hst hpl
    have := run_fa (us := .ref a :: us) (ws := []) (zs := []) (vs := .ref a :: vs') (ds := .ref a :: ds) (es' := []) F hr hg tk bn I2 (ss.with (e1.trans e2) m2) (.cons rfl r) .nil (.cons (.ref a) r2) .nil (by simp [l2]) rfl (by simpa using q2) (fun v H' kv => kq v H' (kv.lift (e1.trans e2))) kx
    exact this
/-- o.m() -/
theorem qe_meth0 {pl : Sem Bool} {qual : Str} {st : Stmt} (he : QE X B W o ta) (cl : Cls X.K C) (c : CalM X.prog X.w X.K X.mg X.base k C m qual st ps sp) (hr : Room k X.A) (hg : X.A.guards = some []) (tk : Takes X W) (b : Bds m qual st ps 1 [] pm)
    (ht : eval (.Call (.Attribute o m apos) [] [] pos) X.env = (do
      let ov ← eval o X.env
      standAt apos.atName
      let (f, first) ← holding [ov] (getMethod ov m pl)
      callWith pos f first (backTo pos (starEach [] X.env)) (backToKw pos (keywordEach [] X.env))) := by rfl) :
    QE X B W (.Call (.Attribute o m apos) [] [] pos) (aMeth C m sp 0 pm ta aNil) := by
  obtain ⟨f, fd, hF, hm, F⟩ := c.ex
  have bn := b.of' hF
  refine ⟨fun pins s σ' H R I ⟨G, σ, M, Q, E, ss, h, kq, kx⟩ => ?_⟩
  refine PySem.W.methodCall_KW (pl := pl) (thn (he.run pins s σ' H (Kv X.K G _) I ⟨G, σ, M, _, E, ss, h, fun v H' kv => kv, kx⟩) fun u s1 ⟨x, H1, I1, rx, d, M1, G1, e1, m1, r1, q1⟩ => ?_) ht
  match d, q1 with
  | .ref a, ⟨fs, h1, hl, _, q1⟩ =>
    obtain ⟨_, dx, vs, fr, eH⟩ := m1.cell a _ h1
    cases r1
    obtain rfl : u = Value.ref a := rx
    refine getmeth_ok I1 eH cl hm (fr.nolook hl) ?_
    exact PySem.W.callWith_K0 (first := [.ref a]) I1.kIn hm.kp (run_fa (us := [.ref a]) (ws := []) (zs := []) (vs := [.ref a]) (ds := [.ref a]) (es' := []) F hr hg tk bn I1 (ss.with e1 m1) (.cons rfl .nil) .nil (.cons (.ref a) .nil) .nil rfl rfl (by simpa using q1) (fun v H' kv => kq v H' (kv.lift e1)) kx)

/-! ### new instances -/
/-- a class of the module, with its __init__ -/
structure CalC (P : Program) (w : World) (K : PySem.W.Frag) (mg : Str → Option Value) (base : Heap) (k : Nat) (x : Str) (C : Addr) (qual : Str) (st : Stmt) (ps : List Str) (sp : ASp) : Prop where
  mgC : mg x = some (.ref C)
  ex : ∃ f fd, Fun K "__init__" qual st f fd ∧ Mk K C f ∧ FA P w K mg base k f fd ps sp
def aMake (C : Addr) (sp : ASp) (n j : Nat) (pm : List Nat) (ta tk : AA) : AE := fun σ M Q E => ta σ M (fun us M1 => tk σ M1 (fun ws M2 => us.length = n ∧ ws.length = j ∧ ∀ a, M2 a = none → sp (pick pm (.ref a :: us ++ ws)) (mset M2 a (.ins C [])) (fun v M3 => v = .non ∧ Q (.ref a) M3) (E σ)) E) E
theorem run_makeA {pins : List (Addr × Obj)} {s : Shared} {st : L2.St} {H : Hp} {us ws : List Value} {vs zs : List V} {G : Hp} {σ : AS} {M : Mem} {Q : DK} {E : AXs} {ds es' : List D} {R : VK} (MK : Mk X.K C f) (F : FA X.prog X.w X.K X.mg X.base k f fd ps sp) (hr : Room (k + 1) X.A) (hg : X.A.guards = some []) (tk : Takes X W)
    (hb : Bnd fd ps (n + 1) ks pm) (I : Inv X pins st H s) (ss : SS X.K B G σ M st H) (r : Vals vs us) (rz : Vals zs ws) (q1 : RpA X.K G ds vs) (q2 : RpA X.K G es' zs) (l1 : ds.length = n) (l2 : es'.length = ks.length)
    (h : ∀ a, M a = none → sp (pick pm (.ref a :: ds ++ es')) (mset M a (.ins C [])) (fun v M3 => v = .non ∧ Q (.ref a) M3) (E σ))
    (kq : ∀ v H', Kv X.K G Q v H' → R v H') (kx : ∀ c d s' H', Wx X.K B E c d s' H' → W c d s' H') : wpAny (model X.prog X.w) X.A (call (.ref C) us (ks.zip ws)) (EP X pins st R) X.xe s := (by exact HA.Wq.get : @HA.Wq (wpAny (model X.prog X.w) X.A (call (.ref C) us (ks.zip ws)) (EP X pins st R) X.xe s) (by
  have fx := I.hok.fresh (Nat.le_succ s.heap.objs.size)
  have fd0 := I.hok.fresh (Nat.le_refl s.heap.objs.size)
  have hne : s.heap.objs.size + 1 ≠ s.heap.objs.size := Nat.succ_ne_self _
  have I2 := Inv.made (C := C) I
  have m0 := (ss.mem.free fx)
  have same : Same H (upd (upd H s.heap.objs.size (.own (s.heap.objs.size + 1))) (s.heap.objs.size + 1) (.ins C s.heap.objs.size [])) := fun b o e => by
    rw [upd_ne (ne_of_none e fx), upd_ne (ne_of_none e fd0)]; exact e
  have mem1 := ss.mem.ext (same_upd (o := .own (s.heap.objs.size + 1)) fd0)
  have fx1 : upd H s.heap.objs.size (.own (s.heap.objs.size + 1)) (s.heap.objs.size + 1) = none := by rw [upd_ne hne]; exact fx
  have mem2 : SM X.K G (mset M (s.heap.objs.size + 1) (.ins C [])) _ := mem1.new (p := s.heap.objs.size + 1) (o := .ins C s.heap.objs.size []) (c := .ins C []) fx1 ⟨s.heap.objs.size, [], .nil, upd_same⟩
  have hq := h (s.heap.objs.size + 1) m0.2
  have b : BindsTo { s with heap := (s.heap.push PySem.W.emptyDict).push (PySem.W.instObj C s.heap.objs.size) } fd ⟨.ref (s.heap.objs.size + 1) :: us, ks.zip ws⟩ (ps.zip (pick pm (.ref (s.heap.objs.size + 1) :: us ++ ws))) :=
    .of_eq (hb (.ref (s.heap.objs.size + 1) :: us) ws (by rw [List.length_cons, ← r.length, ← q1.len]; omega) (by rw [← rz.length, ← q2.len]; exact l2))
  refine wpAny_call (make_map (f := f) I.kIn MK.makes MK.init (beq_iff_eq.mp MK.fn) (codeAny_mono (F.run _ X.stack _ _ _ _ (pick pm (V.ref (s.heap.objs.size + 1) :: vs ++ zs)) (pick pm (D.ref (s.heap.objs.size + 1) :: ds ++ es')) G _ _ (E σ) (hr.make C us (ks.zip ws)) (make_guards hg)
    (I2.env0.make C us (ks.zip ws)) b (pick_vals (vs := V.ref (s.heap.objs.size + 1) :: vs ++ zs) (us := Value.ref (s.heap.objs.size + 1) :: us ++ ws) (Vals.append (.cons (show RelV (V.ref (s.heap.objs.size + 1)) (Value.ref (s.heap.objs.size + 1)) from rfl) r) rz) pm) mem2 (pick_rp (RpA.app (.cons (.ref _) q1) q2) pm) hq) fun z s' hz => ?_))
  have ss2 : SS X.K B G σ (mset M (s.heap.objs.size + 1) (.ins C [])) st _ := ss.with (Same.refl G) mem2
  cases z with
  | error e => exact tk e s' (XE.of_call I2 (fun cls d H' hk => kx _ _ _ _ (Wx.of ss2 hk)) hz)
  | ok fl =>
    cases fl with
    | ret u =>
      obtain ⟨v, H', I3, rv, d, M3, G3, e3, m3, rd, ed, q3⟩ := I2.after hz
      subst ed
      cases rd
      exact ⟨rv, ⟨V.ref (s.heap.objs.size + 1), H', I3, rfl, kq _ _ ⟨.ref _, M3, G3, e3, m3, .ref _, q3⟩⟩⟩
    | next => exact False.elim hz
    | brk => exact False.elim hz
    | cont => exact False.elim hz))
theorem qe_make {qual : Str} {st : Stmt} {j : Nat} (c : CalC X.prog X.w X.K X.mg X.base k x C qual st ps sp) (hr : Room (k + 1) X.A) (hg : X.A.guards = some []) (tk : Takes X W) (b : Bds "__init__" qual st ps (n + 1) ks pm) (ha : QA X B W (e :: es) tas) (hk : QK X B W kws tks) (hgl : Gl X x := by rfl) (hj : ks.length = j := by rfl)
    (hks : (backToKw pos (keywordEach kws X.env)).filterMap (·.1) = ks := by rfl) (hall : (backToKw pos (keywordEach kws X.env)).all (·.1.isSome) = true := by rfl)
    (hdb : (x == ("__debug__" : Str)) = false := by decide) (he : starEach (e :: es) X.env = (false, eval e X.env) :: starEach es X.env := by rfl)
    (hpl : ((backTo pos (starEach (e :: es) X.env)).any (·.1) || (backToKw pos (keywordEach kws X.env)).any (·.1.isNone)) = false := by rfl) : QE X B W (.Call (.Name x p) (e :: es) kws pos) (aMake C sp n j pm tas tks) := by
  obtain ⟨f, fd, hF, MK, F⟩ := c.ex
  have bn := b.of' hF
  subst hj
  refine ⟨fun pins s st' H R I ⟨G, σ, M, Q, E, ss, h, kq, kx⟩ => ?_⟩
  refine wpAny_Call_Name_kw (ld_glob I hgl c.mgC ?_ hdb)
  refine PySem.W.callWith_KW (h₀ := X.base) I.ok.mod.kin MK.kp hall (thn (ha.run pos pins s st' H (fun vs H1 => ∃ ds M1 G1, Same G G1 ∧ SM X.K G1 M1 H1 ∧ RpA X.K G1 ds vs ∧ _) I ⟨G, σ, M, _, E, ss, h, fun vs H1 ds M1 G1 e1 m1 r1 q1 => ⟨ds, M1, G1, e1, m1, r1, q1⟩, kx⟩) fun us s1 ⟨vs, H1, I1, r, ds, M1, G1, e1, m1, r1, q1⟩ => ?_) hpl he
  refine thn (hk.run pos pins s1 st' H1 (fun vs H2 => ∃ es' M2 G2, Same G1 G2 ∧ SM X.K G2 M2 H2 ∧ RpA X.K G2 es' vs ∧ _) I1 ⟨G1, σ, M1, _, E, ss.with e1 m1, q1, fun vs H2 ds M2 G2 e2 m2 r2 q2 => ⟨ds, M2, G2, e2, m2, r2, q2⟩, kx⟩) fun ws s2 ⟨zs, H2, I2, rz, es', M2, G2, e2, m2, r2, l1, l2, q2⟩ => ⟨I2.kIn, ?_⟩
  rw [hks]
  exact run_makeA MK F hr hg tk bn I2 (ss.with (e1.trans e2) m2) r rz (r1.up e2) r2 l1 l2 q2 (fun v H' kv => kq v H' (kv.lift (e1.trans e2))) kx
theorem qe_make0 {qual : Str} {st : Stmt} {j : Nat} (c : CalC X.prog X.w X.K X.mg X.base k x C qual st ps sp) (hr : Room (k + 1) X.A) (hg : X.A.guards = some []) (tk : Takes X W) (b : Bds "__init__" qual st ps 1 ks pm) (hk : QK X B W kws tks) (hgl : Gl X x := by rfl) (hj : ks.length = j := by rfl)
    (hks : (backToKw pos (keywordEach kws X.env)).filterMap (·.1) = ks := by rfl) (hall : (backToKw pos (keywordEach kws X.env)).all (·.1.isSome) = true := by rfl)
    (hdb : (x == ("__debug__" : Str)) = false := by decide)
    (hpl : ((backTo pos (starEach [] X.env)).any (·.1) || (backToKw pos (keywordEach kws X.env)).any (·.1.isNone)) = false := by rfl) : QE X B W (.Call (.Name x p) [] kws pos) (aMake C sp 0 j pm aNil tks) := by
  obtain ⟨f, fd, hF, MK, F⟩ := c.ex
  have bn := b.of' hF
  subst hj
  refine ⟨fun pins s st' H R I ⟨G, σ, M, Q, E, ss, h, kq, kx⟩ => ?_⟩
  refine wpAny_Call_Name_kw (ld_glob I hgl c.mgC ?_ hdb)
  refine PySem.W.callWith_KW0 (h₀ := X.base) I.ok.mod.kin MK.kp hall ?_ hpl
  refine thn (hk.run pos pins s st' H (fun vs H2 => ∃ es' M2 G2, Same G G2 ∧ SM X.K G2 M2 H2 ∧ RpA X.K G2 es' vs ∧ _) I ⟨G, σ, M, _, E, ss, h, fun vs H2 ds M2 G2 e2 m2 r2 q2 => ⟨ds, M2, G2, e2, m2, r2, q2⟩, kx⟩) fun ws s2 ⟨zs, H2, I2, rz, es', M2, G2, e2, m2, r2, l1, l2, q2⟩ => ⟨I2.kIn, ?_⟩
  rw [hks]
  exact run_makeA (us := []) (vs := []) (ds := []) MK F hr hg tk bn I2 (ss.with e2 m2) .nil rz .nil r2 l1 l2 q2 (fun v H' kv => kq v H' (kv.lift e2)) kx
end
end HA
/-! A20: a module's constant tuples; the bodies of classes; small helps. -/
namespace HA
open PySem PySem.Spec L2
theorem nx_to {D' : AEn} {σ : AS} {M : Mem} (h : D'.nx σ M) : aNext D' σ M := h
/-- the constant x of the module is the tuple ds -/
def GT (K : PySem.W.Frag) (mg : Str → Option Value) (x : Str) (ds : List D) : Prop := ∃ v, mg x = some (.ref v) ∧ Rp K (fun _ => none) (.tup ds) (.ref v)
theorem same_none (G : Hp) : Same (fun _ => none) G := fun _ _ e => by cases e
theorem qe_gtup {X : Cx} {B : Hp} {W : WX} {x : Str} {ds : List D} {pos : Pos} (h : GT X.K X.mg x ds) (hg : Gl X x := by rfl) (hd : (x == ("__debug__" : Str)) = false := by decide) : QE X B W (.Name x pos) (aC (.tup ds)) := by
  obtain ⟨a, h1, h2⟩ := h
  exact qe_glob (v := .ref a) hg h1 rfl (fun G => h2.up (same_none G)) hd
/-- a written tuple -/
theorem rp_writ {K : PySem.W.Frag} {t : Addr} {ds : List D} {vs : List V} {od : Option Addr} {its : Array Value} {n : Nat} {sl : Array (Option Value)} (h : K.lookup t = some ⟨.type "tuple", od, .seq its n, sl⟩) (hz : its.size ≤ sizeLine) (hv : Vals vs its.toList) (hr : RpA K (fun _ => none) ds vs) : Rp K (fun _ => none) (.tup ds) (.ref t) :=
  .tup (.inr ⟨_, its, n, h, rfl, rfl, hz, hv⟩) hr
/-- a class's body -/
def clsB : Stmt → List Stmt
  | .ClassDef _ _ _ b _ _ _ _ _ _ _ => b
  | _ => []
section
variable {X : Cx} {B : Hp} {W : WX} {k n : Nat} {f C : Addr} {fd : FuncData} {ps ks : List Str} {sp : ASp} {pm : List Nat} {x m : Str} {p pos apos : Pos} {e o : Expr} {es : List Expr} {kws : List Keyword} {ta : AE} {tas tks : AA}
/-- o.m(k = v, ..) -/
def aMethK (C : Addr) (m : Str) (sp : ASp) (j : Nat) (pm : List Nat) (to : AE) (tk : AA) : AE := fun σ M Q E => to σ M (fun x M1 => match x with
  | .ref a => ∃ fs, M1 a = some (.ins C fs) ∧ fs.lookup m = none ∧ tk σ M1 (fun ws M2 => ws.length = j ∧ sp (pick pm ([.ref a] ++ ws)) M2 Q (E σ)) E
  | _ => False) E
theorem qe_methK {pl : Sem Bool} {qual : Str} {st : Stmt} {j : Nat} (he : QE X B W o ta) (cl : Cls X.K C) (c : CalM X.prog X.w X.K X.mg X.base k C m qual st ps sp) (hr : Room k X.A) (hg : X.A.guards = some []) (tk : Takes X W) (b : Bds m qual st ps 1 ks pm) (hk : QK X B W kws tks) (hj : ks.length = j := by rfl)
    (hks : (backToKw pos (keywordEach kws X.env)).filterMap (·.1) = ks := by rfl) (hall : (backToKw pos (keywordEach kws X.env)).all (·.1.isSome) = true := by rfl)
    (hpl : ((backTo pos (starEach [] X.env)).any (·.1) || (backToKw pos (keywordEach kws X.env)).any (·.1.isNone)) = false := by rfl)
    (ht : eval (.Call (.Attribute o m apos) [] kws pos) X.env = (do
      let ov ← eval o X.env
      standAt apos.atName
      let (f, first) ← holding [ov] (getMethod ov m pl)
      callWith pos f first (backTo pos (starEach [] X.env)) (backToKw pos (keywordEach kws X.env))) := by rfl) :
    QE X B W (.Call (.Attribute o m apos) [] kws pos) (aMethK C m sp j pm ta tks) := by
  obtain ⟨f, fd, hF, hm, F⟩ := c.ex
  have bn := b.of' hF
  subst hj
  refine ⟨fun pins s σ' H R I ⟨G, σ, M, Q, E, ss, h, kq, kx⟩ => ?_⟩
  refine PySem.W.methodCall_KW (pl := pl) (thn (he.run pins s σ' H (Kv X.K G _) I ⟨G, σ, M, _, E, ss, h, fun v H' kv => kv, kx⟩) fun u s1 ⟨x, H1, I1, rx, d, M1, G1, e1, m1, r1, q1⟩ => ?_) ht
  match d, q1 with
  | .ref a, ⟨fs, h1, hl, q1⟩ =>
    obtain ⟨_, dx, vs, fr, eH⟩ := m1.cell a _ h1
    cases r1
    obtain rfl : u = Value.ref a := rx
    refine getmeth_ok I1 eH cl hm (fr.nolook hl) ?_
    refine PySem.W.callWith_KW0 (first := [.ref a]) (h₀ := X.base) I.ok.mod.kin hm.kp hall ?_ hpl
    refine thn (hk.run pos pins s1 σ' H1 (fun vs H2 => ∃ es' M2 G2, Same G1 G2 ∧ SM X.K G2 M2 H2 ∧ RpA X.K G2 es' vs ∧ _) I1 ⟨G1, σ, M1, _, E, ss.with e1 m1, q1, fun vs H2 ds M2 G2 e2 m2 r2 q2 => ⟨ds, M2, G2, e2, m2, r2, q2⟩, kx⟩) fun ws s2 ⟨zs, H2, I2, rz, es', M2, G2, e2, m2, r2, l2, q2⟩ => ⟨I2.kIn, ?_⟩
    rw [hks]
    exact run_fa (us := [.ref a]) (vs := [.ref a]) (ds := [.ref a]) F hr hg tk bn I2 (ss.with (e1.trans e2) m2) (.cons rfl .nil) rz (.cons (.ref a) .nil) r2 rfl l2 q2 (fun v H' kv => kq v H' (kv.lift (e1.trans e2))) kx
end
end HA
/-! A21: sum, max, min, all, any, sorted of lists; in; pop(i); enumerate. -/
namespace HA
open PySem PySem.Spec L2
section
variable {X : Cx}
def cSumL : AC := fun xs M Q => match xs with
  | [x] => ∃ ns : List Int, LsAt M x (ns.map D.int) ∧ Q (.int ns.sum) M
  | _ => False
theorem cb_sumL (hc : X.calm = true) : CallB X "sum" cSumL := ⟨_, cr_sum hc, fun G M H xs vs Q R m r h k => by
  match xs, h with
  | [x], ⟨ns, h1, h2⟩ =>
    obtain ⟨v, rfl, rv⟩ := rpa1 r
    refine lsAt m rv h1 fun a ws e p t => ?_
    subst e
    have e := t.of_ints
    subst e
    exact ⟨a, ns, rfl, p, k _ _ (.here m (.int _) h2)⟩⟩
def cMaxL : AC := fun xs M Q => match xs with
  | [x] => ∃ ns : List Int, LsAt M x (ns.map D.int) ∧ 0 < ns.length ∧ ∀ m, m ∈ ns → (∀ y, y ∈ ns → y ≤ m) → Q (.int m) M
  | _ => False
theorem cb_maxL (hc : X.calm = true) : CallB X "max" cMaxL := ⟨_, cr_max hc, fun G M H xs vs Q R m r h k => by
  match xs, h with
  | [x], ⟨ns, h1, h0, h2⟩ =>
    obtain ⟨v, rfl, rv⟩ := rpa1 r
    refine lsAt m rv h1 fun a ws e p t => ?_
    subst e
    have e := t.of_ints
    subst e
    exact ⟨a, ns, rfl, p, h0, fun y hy hz => k _ _ (.here m (.int _) (h2 y hy hz))⟩⟩
def cMinL : AC := fun xs M Q => match xs with
  | [x] => ∃ ns : List Int, LsAt M x (ns.map D.int) ∧ 0 < ns.length ∧ ∀ m, m ∈ ns → (∀ y, y ∈ ns → m ≤ y) → Q (.int m) M
  | _ => False
theorem cb_minL (hc : X.calm = true) : CallB X "min" cMinL := ⟨_, cr_min hc, fun G M H xs vs Q R m r h k => by
  match xs, h with
  | [x], ⟨ns, h1, h0, h2⟩ =>
    obtain ⟨v, rfl, rv⟩ := rpa1 r
    refine lsAt m rv h1 fun a ws e p t => ?_
    subst e
    have e := t.of_ints
    subst e
    exact ⟨a, ns, rfl, p, h0, fun y hy hz => k _ _ (.here m (.int _) (h2 y hy hz))⟩⟩
def cAllL (f : List Bool → Bool) : AC := fun xs M Q => match xs with
  | [x] => ∃ bs : List Bool, LsAt M x (bs.map D.bl) ∧ Q (.bl (f bs)) M
  | _ => False
theorem cb_allL (hc : X.calm = true) : CallB X "all" (cAllL fun bs => bs.all id) := ⟨_, cr_all hc, fun G M H xs vs Q R m r h k => by
  match xs, h with
  | [x], ⟨bs, h1, h2⟩ =>
    obtain ⟨v, rfl, rv⟩ := rpa1 r
    refine lsAt m rv h1 fun a ws e p t => ?_
    subst e
    have e := t.of_bls
    subst e
    exact ⟨a, bs, rfl, p, k _ _ (.here m (.bl _) h2)⟩⟩
theorem cb_anyL (hc : X.calm = true) : CallB X "any" (cAllL fun bs => bs.any id) := ⟨_, cr_any hc, fun G M H xs vs Q R m r h k => by
  match xs, h with
  | [x], ⟨bs, h1, h2⟩ =>
    obtain ⟨v, rfl, rv⟩ := rpa1 r
    refine lsAt m rv h1 fun a ws e p t => ?_
    subst e
    have e := t.of_bls
    subst e
    exact ⟨a, bs, rfl, p, k _ _ (.here m (.bl _) h2)⟩⟩
def cSortedF : AC := fun xs M Q => match xs with
  | [x] => ∃ ns : List Int, LsAt M x (ns.map D.int) ∧ ∀ ns' : List Int, ns'.Perm ns → ns'.Pairwise (· ≤ ·) → Q (.lst (ns'.map D.int)) M
  | _ => False
theorem cb_sortedF : CallB X "sorted" cSortedF := ⟨_, cr_sortedI, fun G M H xs vs Q R m r h k => by
  match xs, h with
  | [x], ⟨ns, h1, h2⟩ =>
    obtain ⟨v, rfl, rv⟩ := rpa1 r
    refine lsAt m rv h1 fun a ws e p t => ?_
    subst e
    have e := t.of_ints
    subst e
    exact ⟨a, ns, rfl, p, fun ns' q h3 h4 hq => Kv.lstF m k (.ints ns') hq (h2 ns' h3 h4)⟩⟩
/-! ### in -/
def flat : D → Bool
  | .non => true
  | .bl _ => true
  | .int _ => true
  | .str _ => true
  | _ => false
def fv : D → V
  | .non => .non
  | .bl b => .bl b
  | .int i => .int i
  | .str x => .str x
  | _ => .non
theorem flat_rp {K : PySem.W.Frag} {G : Hp} {x : D} {v : V} (r : Rp K G x v) (h : flat x = true) : v = fv x ∧ flatV v = true := by
  cases r <;> first | exact ⟨rfl, rfl⟩ | cases h
theorem flat_rpa {K : PySem.W.Frag} {G : Hp} : ∀ {xs : List D} {vs : List V}, RpA K G xs vs → xs.all flat = true → vs = xs.map fv ∧ vs.all flatV = true
  | _, _, .nil, _ => ⟨rfl, rfl⟩
  | _, _, .cons r t, h => by
    simp only [List.all_cons, Bool.and_eq_true] at h
    obtain ⟨e1, f1⟩ := flat_rp r h.1
    obtain ⟨e2, f2⟩ := flat_rpa t h.2
    exact ⟨by rw [e1, e2]; rfl, by simp only [List.all_cons, f1, f2, Bool.and_self]⟩
def bIn (neg : Bool) : A2 := fun x y M Q => flat x = true ∧ ∃ ys, (y = .tup ys ∨ LsAt M y ys) ∧ ys.all flat = true ∧ Q (.bl (if neg then !inV (fv x) (ys.map fv) else inV (fv x) (ys.map fv))) M
theorem bIn_ok {K : PySem.W.Frag} {neg : Bool} : OkR K (bIn neg) (rIn K neg) := fun G M H x y xv yv Q R m rx ry h k => by
  obtain ⟨fx, ys, hy, fy, q⟩ := h
  obtain ⟨e1, f1⟩ := flat_rp rx fx
  rcases hy with rfl | hy
  · obtain ⟨a, vs, rfl, p, t⟩ := rp_tup ry
    obtain ⟨e2, f2⟩ := flat_rpa t fy
    subst e1 e2
    exact ⟨a, _, rfl, .inr (same_sqt m.same p), f1, f2, k _ _ (.here m (.bl _) q)⟩
  · refine lsAt m ry hy fun a vs e p t => ?_
    obtain ⟨e2, f2⟩ := flat_rpa t fy
    subst e1 e2
    exact ⟨a, _, e, .inl p, f1, f2, k _ _ (.here m (.bl _) q)⟩
theorem c_in : CmpOk X .In (bIn false) := ⟨_, op_in_seq, bIn_ok⟩
theorem c_notin : CmpOk X .NotIn (bIn true) := ⟨_, op_notIn_seq, bIn_ok⟩
theorem inV_ints (i : Int) : ∀ ns : List Int, inV (.int i) (ns.map V.int) = decide (i ∈ ns)
  | [] => by simp [inV]
  | n :: r => by
    have ih := inV_ints i r
    show ((n == i) || inV (.int i) (r.map V.int)) = decide (i ∈ n :: r)
    rw [ih]
    by_cases h : n = i
    · subst h; simp
    · have : ¬ i = n := fun e => h e.symm
      simp [h, this]
theorem fv_ints (ns : List Int) : (ns.map D.int).map fv = ns.map V.int := by simp [Function.comp_def, fv]
theorem flat_ints (ns : List Int) : (ns.map D.int).all flat = true := by simp [flat]
end
/-! ### xs.pop(i) -/
theorem RpA.eraseIdx {K : PySem.W.Frag} {G : Hp} : ∀ {ds : List D} {vs : List V} (k : Nat), RpA K G ds vs → RpA K G (ds.eraseIdx k) (vs.eraseIdx k)
  | _, _, _, .nil => .nil
  | _, _, 0, .cons _ t => t
  | _, _, k + 1, .cons h t => .cons h (RpA.eraseIdx k t)
@[simp] def mPopAt : AM := fun x ys M Q => match x, ys with
  | .ref p, [.int i] => ∃ xs k y, M p = some (.lst xs) ∧ (-(2 ^ 63) ≤ i ∧ i < 2 ^ 63) ∧ seqIndex? i xs.length = some k ∧ xs[k]? = some y ∧ Q y (mset M p (.lst (xs.eraseIdx k)))
  | _, _ => False
theorem mPopAt_ok {K : PySem.W.Frag} : OkMt K mPopAt rPopAt := fun G M H x xs xv vs Q R m rx ra h k => by
  match x, xs, h with
  | .ref p, [.int i], ⟨ys, j, y, h1, hb, h2, h3, h4⟩ =>
    obtain ⟨v, rfl, rv⟩ := rpa1 ra
    cases rv
    cases rx
    obtain ⟨ws, t, e⟩ := cellL m h1
    obtain ⟨u, hu, ru⟩ := t.get h3
    exact ⟨p, ws, i, j, u, rfl, rfl, e, hb.1, hb.2, by rw [← t.len]; exact h2, hu, Kv.wr m k h1 (t.eraseIdx j) ru h4⟩
/-! ### enumerate(list) -/
def enumD (xs : List D) : List D := (List.range xs.length).filterMap fun (i : Nat) => (xs[i]?).map fun x => D.tup [.int (i : Nat), x]
theorem enumD_eq (xs : List D) : ∀ n, n ≤ xs.length → ((List.range n).filterMap fun (i : Nat) => (xs[i]?).map fun x => D.tup [.int (i : Nat), x]).length = n ∧ ∀ i, i < n → ((List.range n).filterMap fun (i : Nat) => (xs[i]?).map fun x => D.tup [.int (i : Nat), x])[i]? = (xs[i]?).map fun x => D.tup [.int (i : Nat), x]
  | 0, _ => ⟨rfl, fun i h => by omega⟩
  | n + 1, h => by
    obtain ⟨a, b⟩ := enumD_eq xs n (by omega)
    obtain ⟨x, hx⟩ := get_lt (xs := xs) (i := n) (by omega)
    rw [List.range_succ, List.filterMap_append]
    simp only [List.filterMap_cons, List.filterMap_nil, hx, Option.map_some]
    refine ⟨by simp [a], fun i hi => ?_⟩
    by_cases e : i = n
    · subst e
      rw [List.getElem?_append_right (by omega), a, hx]; simp
    · rw [List.getElem?_append_left (by omega)]; exact b i (by omega)
theorem enumD_len (xs : List D) : (enumD xs).length = xs.length := (enumD_eq xs xs.length (Nat.le_refl _)).1
theorem enumD_get {xs : List D} {i : Nat} (h : i < xs.length) : (enumD xs)[i]? = (xs[i]?).map fun x => D.tup [.int (i : Nat), x] := (enumD_eq xs xs.length (Nat.le_refl _)).2 i h
theorem itok_enum {K : PySem.W.Frag} {G : Hp} {a : Addr} {xs : List D} {st : Mem → Prop} (h : ∀ G' M H, Same G G' → SM K G' M H → st M → ∃ vs, SqL K H a vs ∧ RpA K G' xs vs) : ItOk K G (enumD xs) st (Ite K a) where
  go := fun i G' M H hi e m s => by
    rw [enumD_len] at hi
    obtain ⟨vs, h1, h2⟩ := h G' M H e m s
    obtain ⟨v, hv⟩ := get_lt (xs := vs) (i := i) (by rw [← h2.len]; exact hi)
    exact ⟨vs, v, h1, hv⟩
  stop := fun i G' M H hi e m s => by
    rw [enumD_len] at hi
    obtain ⟨vs, h1, h2⟩ := h G' M H e m s
    exact ⟨vs, h1, by rw [← h2.len]; exact hi⟩
  yld := fun i G' M H x H' hi e m s y => by
    rw [enumD_len] at hi
    obtain ⟨vs, h1, h2⟩ := h G' M H e m s
    obtain ⟨T, u, rfl, hT, rfl, hu⟩ := y
    obtain ⟨d, hd, r⟩ := h2.getV (hu vs h1)
    have g0 := (m.free hT).1
    refine ⟨.tup [.int (i : Nat), d], _, by rw [enumD_get hi, hd]; rfl, same_upd g0, m.frozen hT, .tup (.inl upd_same) (.cons (.int _) (.cons (r.up (same_upd g0)) .nil))⟩
section
variable {X : Cx} {B : Hp} {W : WX} {e : Expr} {te : AE} {tas : AA} {pos p tpos : Pos} {elts : List Expr} {kk : Nat}
def aEnumL (t : AA) : AI := fun σ M Q E => t σ M (fun ds M1 => match ds with
  | [x] => ∃ xs, LsAt M1 x xs ∧ Q (enumD xs) (still x xs) M1
  | _ => False) E
theorem qi_enum (hg : Gl X "enumerate") (hm : X.mg "enumerate" = none) (ha : QA X B W [e] tas) (hs : starEach [e] X.env = [(false, eval e X.env)] := by rfl) : QI X B W (.Tuple elts kk tpos) (.Call (.Name "enumerate" p) [e] [] pos) (aEnumL tas) :=
  pi_imp (pi_enum hg hm ha hs) fun s H R ⟨G, σ, M, Q, E, ss, h, k, kx⟩ => ⟨G, σ, M, _, E, ss, h, fun vs H1 ds M1 G1 e1 m1 r1 q => by
    match ds, q with
    | [x], ⟨xs, h1, q⟩ =>
      obtain ⟨v, rfl, rv⟩ := rpa1 r1
      have ok : ∀ a, v = .ref a → ItOk X.K G1 (enumD xs) (still x xs) (Ite X.K a) := fun a ea => itok_enum fun G' M' H' e' m' s' => by
        have r' := rv.up e'
        match x, h1, s', r' with
        | .lst ys, h1, s', r' => cases h1; cases r' with | lst g t => cases ea; exact ⟨_, .of (m'.same _ _ g), t⟩
        | .frz ys, h1, s', r' => cases h1; cases r' with | frz g t => cases ea; exact ⟨_, m'.same.seq g, t⟩
        | .ref b, h1, s', r' => cases r'; cases ea; obtain ⟨vs, t, eH⟩ := cellL m' s'; exact ⟨vs, .of eH, t⟩
      refine lsAt m1 rv h1 fun a ws ea p t => ?_
      exact ⟨a, ws, by rw [ea], p, k _ H1 _ _ M1 G1 e1 m1 (ok a ea) q⟩, kx⟩
end
section
variable {X : Cx} {B : Hp} {W : WX} {e o : Expr} {ta : AE} {tas : AA} {apos cpos : Pos}
theorem qe_popAt (ho : QE X B W o ta) (ha : QA X B W [e] tas)
    (hbase : attributeBase o "pop" X.env (eval o X.env) = eval o X.env := by rfl)
    (hfew : ((backTo cpos (starEach [e] X.env)).all (fun x => !x.1) && (backToKw cpos (keywordEach [] X.env)).all (fun x => x.1.isSome)
      && decide (([e] : List Expr).length + ([] : List Keyword).length + (if ([] : List Keyword).isEmpty then 0 else 1) < 30)) = true := by rfl)
    (hline : (apos.endLine == cpos.line) = true := by rfl) (hs : starEach [e] X.env = (false, eval e X.env) :: starEach [] X.env := by rfl) (hplain : (backTo cpos (starEach [] X.env)).any (·.1) = false := by rfl) :
    QE X B W (.Call (.Attribute o "pop" apos) [e] [] cpos) (aMt mPopAt ta tas) := qe_lm PySem.F.slot_list_pop PySem.F.type_list_pop mt_popAt mPopAt_ok ho ha hbase hfew hline hs hplain
end
end HA
/-! A22: steps: one backward lemma for each reading. -/
namespace HA
open PySem PySem.Spec L2
section
variable {nx : AS → Mem → Prop} {rt : DK} {bk ct : AS → Mem → Prop} {xx : AXs} {D' : AEn} {σ σ' : AS} {M M1 M' : Mem} {Q : DK} {E : AXs} {t u : ASt} {ta tb tc te to tv : AE} {tas tk tr : AA} {tt tu : AT} {ti : AI} {g : AG} {d x y z : D} {i j k l n : Nat} {r r' : A2}
/-! statements -/
theorem i_seq (h : t ⟨u ⟨nx, rt, bk, ct, xx⟩, rt, bk, ct, xx⟩ σ M) : aSeq t u ⟨nx, rt, bk, ct, xx⟩ σ M := h
theorem i_nx (h : nx σ M) : aNext ⟨nx, rt, bk, ct, xx⟩ σ M := h
theorem i_brk (h : bk σ M) : aBreak ⟨nx, rt, bk, ct, xx⟩ σ M := h
theorem i_cont (h : ct σ M) : aCont ⟨nx, rt, bk, ct, xx⟩ σ M := h
theorem i_drop (h : te σ M (fun _ M' => nx σ M') xx) : aDrop te ⟨nx, rt, bk, ct, xx⟩ σ M := h
theorem i_ret (h : te σ M rt xx) : aRet te ⟨nx, rt, bk, ct, xx⟩ σ M := h
theorem i_retN (h : rt .non M) : aRetN ⟨nx, rt, bk, ct, xx⟩ σ M := h
theorem i_if (h : tt σ M (fun b M1 => (b = true → t ⟨nx, rt, bk, ct, xx⟩ σ M1) ∧ (b = false → u ⟨nx, rt, bk, ct, xx⟩ σ M1)) xx) : aIf tt t u ⟨nx, rt, bk, ct, xx⟩ σ M := h
theorem i_asg (h : te σ M (fun x M1 => g x σ M1 nx xx) xx) : aAsg te g ⟨nx, rt, bk, ct, xx⟩ σ M := h
def parK (σ : AS) (j l : Nat) (nx : AS → Mem → Prop) : List D → Mem → Prop := fun ds M1 => match ds with
  | [v, w] => nx ((σ.set j (some v)).set l (some w)) M1
  | _ => False
theorem i_par (h : tas σ M (parK σ j l nx) xx) : aPar j l tas ⟨nx, rt, bk, ct, xx⟩ σ M := h
theorem i_parK (e : (σ.set j (some x)).set l (some y) = σ') (h : nx σ' M) : parK σ j l nx [x, y] M := by subst e; exact h
def par3K (σ : AS) (j l n : Nat) (nx : AS → Mem → Prop) : List D → Mem → Prop := fun ds M1 => match ds with
  | [u, v, w] => nx (((σ.set j (some u)).set l (some v)).set n (some w)) M1
  | _ => False
theorem i_par3 (h : tas σ M (par3K σ j l n nx) xx) : aPar3 j l n tas ⟨nx, rt, bk, ct, xx⟩ σ M := h
theorem i_par3K (e : ((σ.set j (some x)).set l (some y)).set n (some z) = σ') (h : nx σ' M) : par3K σ j l n nx [x, y, z] M := by subst e; exact h
theorem i_aug (e : σ[j]? = some (some x)) (h : te σ M (fun y M1 => r x y M1 fun z M2 => agName j z σ M2 nx xx) xx) : aAug j r te ⟨nx, rt, bk, ct, xx⟩ σ M := by
  unfold aAug; rw [e]; exact h
theorem i_for (h : ti σ M (fun xs st M1 => ∃ V : Nat → AS → Mem → Prop, V 0 σ M1 ∧
  (∀ i x σ M, xs[i]? = some x → V i σ M → st M ∧ g x σ M (fun σ2 M2 => t ⟨V (i + 1), rt, nx, V (i + 1), xx⟩ σ2 M2) xx) ∧
  ∀ σ M, V xs.length σ M → st M ∧ nx σ M) xx) : aFor ti g t ⟨nx, rt, bk, ct, xx⟩ σ M := h
theorem i_fldS {K : PySem.W.Frag} {f : Str} (h : tv σ M (fun d M1 => to σ M1 (fun x M2 => fSet K f x d M2 fun M3 => nx σ M3) xx) xx) : aFldS K to tv f ⟨nx, rt, bk, ct, xx⟩ σ M := h
/-! targets -/
theorem i_name {Q' : AS → Mem → Prop} (e : σ.set j (some d) = σ') (h : Q' σ' M) : agName j d σ M Q' E := by subst e; exact h
theorem i_gtup {ds : List D} {gs : AGs} {Q' : AS → Mem → Prop} (e : ds.length = n) (h : gs ds σ M Q' E) : agTup n gs (.tup ds) σ M Q' E := ⟨e, h⟩
theorem i_gtupL {ds : List D} {gs : AGs} {Q' : AS → Mem → Prop} (e : ds.length = n) (h : gs ds σ M Q' E) : agTup n gs (.lst ds) σ M Q' E := ⟨ds, rfl, e, h⟩
theorem i_gnil {Q' : AS → Mem → Prop} (h : Q' σ M) : agNil [] σ M Q' E := h
theorem i_gcons {gs : AGs} {ds : List D} {Q' : AS → Mem → Prop} (h : g d σ M (fun σ' M' => gs ds σ' M' Q' E) E) : agCons g gs (d :: ds) σ M Q' E := h
theorem i_gsub {Q' : AS → Mem → Prop} (h : to σ M (fun o M1 => tb σ M1 (fun i M2 => sSet o i d M2 fun M3 => Q' σ M3) E) E) : agSub to tb d σ M Q' E := h
theorem i_sset {p : Addr} {xs ys : List D} {k : Int} {q : Mem → Prop} (h : M p = some (.lst xs)) (h2 : ixN xs.length k = some j) (e : xs.set j d = ys) (h3 : q (mset M p (.lst ys))) : sSet (.ref p) (.int k) d M q := ⟨xs, j, h, h2, by subst e; exact h3⟩
theorem i_fset {K : PySem.W.Frag} {f : Str} {a C : Addr} {fs fs' : List (Str × D)} {q : Mem → Prop} (h : M a = some (.ins C fs)) (cl : Cls K C) (na : NoAttr K C f) (hz : fs.length < 1000) (e : putD f d fs = fs') (h3 : q (mset M a (.ins C fs'))) : fSet K f (.ref a) d M q := ⟨C, fs, h, cl, na, hz, by subst e; exact h3⟩
/-! expressions -/
theorem i_var (e : σ[i]? = some (some d)) (h : Q d M) : aVar i σ M Q E := by show onSlot σ[i]? _; rw [e]; exact h
theorem i_c (h : Q d M) : aC d σ M Q E := h
theorem i_op (h : ta σ M (fun x M1 => tb σ M1 (fun y M2 => r x y M2 Q) E) E) : aOp r ta tb σ M Q E := h
theorem i_test {Q : Bool → Mem → Prop} (h : te σ M (fun x M' => onBl x fun k => Q k M') E) : aTest te σ M Q E := h
theorem i_onBl {b : Bool} {k : Bool → Prop} (h : k b) : onBl (.bl b) k := h
theorem i_truth {Q : Bool → Mem → Prop} (h : te σ M (fun x M' => tru x M' fun k => Q k M') E) : aTruth te σ M Q E := h
theorem i_tru_bl {b : Bool} {k : Bool → Prop} (h : k b) : tru (.bl b) M k := h
theorem i_tru_non {k : Bool → Prop} (h : k false) : tru .non M k := h
theorem i_tru_int {i : Int} {k : Bool → Prop} (h : k (i != 0)) : tru (.int i) M k := h
theorem i_tru_tup {xs : List D} {k : Bool → Prop} (h : k (!xs.isEmpty)) : tru (.tup xs) M k := h
theorem i_tru_lst {xs : List D} {k : Bool → Prop} (h : k (!xs.isEmpty)) : tru (.lst xs) M k := ⟨xs, rfl, h⟩
theorem i_tru_tI {xs : List Int} {k : Bool → Prop} (h : k (!xs.isEmpty)) : tru (tI xs) M k := by
  show k (!(xs.map D.int).isEmpty); rw [List.isEmpty_map]; exact h
theorem i_notT {Q : Bool → Mem → Prop} (h : tt σ M (fun b M' => Q (!b) M') E) : aNotT tt σ M Q E := h
theorem i_andT {Q : Bool → Mem → Prop} (h : tt σ M (fun b M1 => (b = true → tu σ M1 Q E) ∧ (b = false → Q false M1)) E) : aAndT tt tu σ M Q E := h
theorem i_orT {Q : Bool → Mem → Prop} (h : tt σ M (fun b M1 => (b = true → Q true M1) ∧ (b = false → tu σ M1 Q E)) E) : aOrT tt tu σ M Q E := h
theorem i_yes {Q : Bool → Mem → Prop} (h : Q true M) : aYes σ M Q E := h
theorem i_andV (h : ta σ M (fun x M1 => tru x M1 fun k => (k = true → tb σ M1 Q E) ∧ (k = false → Q x M1)) E) : aAndV ta tb σ M Q E := h
theorem i_orV (h : ta σ M (fun x M1 => tru x M1 fun k => (k = true → Q x M1) ∧ (k = false → tb σ M1 Q E)) E) : aOrV ta tb σ M Q E := h
theorem i_notV (h : ta σ M (fun x M1 => tru x M1 fun k => Q (.bl (!k)) M1) E) : aNotV ta σ M Q E := h
theorem i_ifE (h : tt σ M (fun b M1 => (b = true → ta σ M1 Q E) ∧ (b = false → tb σ M1 Q E)) E) : aIfE tt ta tb σ M Q E := h
def negK (Q : DK) : DK := fun x M1 => match x with
  | .int i => Q (.int (-i)) M1
  | _ => False
theorem i_negc {i : Int} (h : Q (.int (-i)) M) : aNeg (aC (.int i)) σ M Q E := h
theorem i_chain (h : ta σ M (fun x M1 => tb σ M1 (fun y M2 => r x y M2 fun z M3 => onBl z fun k => (k = true → tc σ M3 (fun w M4 => r' y w M4 Q) E) ∧ (k = false → Q (.bl false) M3)) E) E) : aChain r r' ta tb tc σ M Q E := h
theorem i_nil {Q : List D → Mem → Prop} (h : Q [] M) : aNil σ M Q E := h
theorem i_cons {Q : List D → Mem → Prop} (h : ta σ M (fun x M1 => tr σ M1 (fun xs M2 => Q (x :: xs) M2) E) E) : aCons ta tr σ M Q E := h
theorem i_tup (h : tas σ M (fun xs M1 => xs.length ≤ sizeLine ∧ Q (.tup xs) M1) E) : aTup tas σ M Q E := h
theorem i_lstF (h : tas σ M (fun xs M1 => xs.length ≤ sizeLine ∧ Q (.lst xs) M1) E) : aLstF tas σ M Q E := h
theorem i_lst (h : tas σ M (fun xs M1 => xs.length ≤ sizeLine ∧ ∀ p, M1 p = none → Q (.ref p) (mset M1 p (.lst xs))) E) : aLst tas σ M Q E := h
theorem i_sz {P : Prop} {n : Nat} (h1 : n ≤ sizeLine) (h2 : P) : n ≤ sizeLine ∧ P := ⟨h1, h2⟩
theorem i_call {sp : ASp} {n j : Nat} {pm : List Nat} (h : tas σ M (fun us M1 => tk σ M1 (fun ws M2 => us.length = n ∧ ws.length = j ∧ sp (pick pm (us ++ ws)) M2 Q (E σ)) E) E) : aCall sp n j pm tas tk σ M Q E := h
theorem i_cl {us ws ds : List D} {n j : Nat} {pm : List Nat} {sp : ASp} {X : AX} (h1 : us.length = n) (h2 : ws.length = j) (e : pick pm (us ++ ws) = ds) (h : sp ds M Q X) : us.length = n ∧ ws.length = j ∧ sp (pick pm (us ++ ws)) M Q X := ⟨h1, h2, by subst e; exact h⟩
theorem i_cb {f : AC} (h : tas σ M (fun xs M1 => f xs M1 Q) E) : aCB f tas σ M Q E := h
theorem i_mt0 {f : AM} (h : to σ M (fun x M1 => f x [] M1 Q) E) : aMt0 f to σ M Q E := h
theorem i_mt {f : AM} (h : to σ M (fun x M1 => isLs M1 x ∧ tas σ M1 (fun xs M2 => f x xs M2 Q) E) E) : aMt f to tas σ M Q E := h
theorem i_isl {p : Addr} {xs : List D} {P : Prop} (h : M p = some (.lst xs)) (q : P) : isLs M (.ref p) ∧ P := ⟨⟨xs, h⟩, q⟩
theorem i_fld {K : PySem.W.Frag} {f : Str} (h : ta σ M (fun x M1 => fGet K f x M1 Q) E) : aFld K ta f σ M Q E := h
theorem i_fget {K : PySem.W.Frag} {f : Str} {a C : Addr} {fs : List (Str × D)} (h : M a = some (.ins C fs)) (cl : Cls K C) (na : NoAttr K C f) (e : fs.lookup f = some d) (q : Q d M) : fGet K f (.ref a) M Q := ⟨C, fs, d, h, cl, na, e, q⟩
theorem i_slF {tl th : AO} (h : te σ M (fun x M1 => tl σ M1 (fun l M2 => th σ M2 (fun u M3 => sSlF x l u M3 Q) E) E) E) : aSlF te tl th σ M Q E := h
theorem i_noPart {Q : Option Int → Mem → Prop} (h : Q none M) : aNoPart σ M Q E := h
def partK (Q : Option Int → Mem → Prop) : DK := fun x M1 => match x with
  | .int i => Q (some i) M1
  | _ => False
/-! two of ints -/
theorem i_bI {C : Int → Int → Prop} {f : Int → Int → Int} {i j : Int} (c : C i j) (h : Q (.int (f i j)) M) : bI C f (.int i) (.int j) M Q := ⟨c, h⟩
theorem i_bI0 {f : Int → Int → Int} {i j : Int} (h : Q (.int (f i j)) M) : bI0 f (.int i) (.int j) M Q := h
theorem i_bC {f : Int → Int → Bool} {i j : Int} (h : Q (.bl (f i j)) M) : bC f (.int i) (.int j) M Q := h
theorem i_mulO {i j : Int} (c : MulOk i j) (h : Q (.int (i * j)) M) : bMul (.int i) (.int j) M Q := ⟨c, h⟩
theorem i_addI {i j : Int} (h : Q (.int (i + j)) M) : bAddF (.int i) (.int j) M Q := h
theorem i_addt {xs ys : List D} (c : xs.length + ys.length ≤ sizeLine) (h : Q (.tup (xs ++ ys)) M) : bAddF (.tup xs) (.tup ys) M Q := ⟨c, h⟩
theorem i_addtI {xs ys : List Int} (c : xs.length + ys.length ≤ sizeLine) (h : Q (tI (xs ++ ys)) M) : bAddF (tI xs) (tI ys) M Q := ⟨by simpa using c, by rw [← List.map_append]; exact h⟩
theorem i_addl {xs ys : List D} (c : xs.length + ys.length ≤ sizeLine) (h : Q (.lst (xs ++ ys)) M) : bAddF (.lst xs) (.lst ys) M Q := ⟨xs, ys, rfl, rfl, c, h⟩
theorem i_IaddI {i j : Int} (h : Q (.int (i + j)) M) : bIAdd (.int i) (.int j) M Q := h
/-- lists of ints, frozen -/
def lI (ns : List Int) : D := .lst (ns.map .int)
theorem i_addlI {xs ys : List Int} (c : xs.length + ys.length ≤ sizeLine) (h : Q (lI (xs ++ ys)) M) : bAddF (lI xs) (lI ys) M Q := ⟨xs.map .int, ys.map .int, rfl, rfl, by simpa using c, by rw [← List.map_append]; exact h⟩
theorem i_isN {b : Bool} (h : Q (.bl (b ^^ isNon x)) M) : bIsN b x .non M Q := h
/-! items, slices -/
theorem i_ixt {xs : List D} {i : Int} (e : atI xs i = some d) (h : Q d M) : bIx (.tup xs) (.int i) M Q := ⟨d, e, h⟩
theorem i_ixtI {xs : List Int} {i m : Int} (e : atI xs i = some m) (h : Q (.int m) M) : bIx (tI xs) (.int i) M Q := ⟨.int m, by rw [atI_map, e]; rfl, h⟩
theorem i_ixl {xs : List D} {i : Int} (e : atI xs i = some d) (h : Q d M) : bIx (.lst xs) (.int i) M Q := ⟨xs, d, rfl, e, h⟩
theorem i_ixlI {xs : List Int} {i m : Int} (e : atI xs i = some m) (h : Q (.int m) M) : bIx (lI xs) (.int i) M Q := ⟨xs.map .int, .int m, rfl, by rw [atI_map, e]; rfl, h⟩
theorem i_ixr {p : Addr} {xs : List D} {i : Int} (hp : M p = some (.lst xs)) (e : atI xs i = some d) (h : Q d M) : bIx (.ref p) (.int i) M Q := ⟨xs, d, hp, e, h⟩
theorem cut_mapI {ns : List Int} {lo hi : Option Int} : cut (ns.map D.int) lo hi = (cut ns lo hi).map D.int := by
  unfold cut; simp
theorem i_slt {xs : List D} {lo hi : Option Int} (h : Q (.tup (cut xs lo hi)) M) : sSlF (.tup xs) lo hi M Q := h
theorem i_sltI {xs : List Int} {lo hi : Option Int} (h : Q (tI (cut xs lo hi)) M) : sSlF (tI xs) lo hi M Q := by
  show Q (.tup (cut (xs.map D.int) lo hi)) M; rw [cut_mapI]; exact h
theorem i_sll {xs : List D} {lo hi : Option Int} (h : Q (.lst (cut xs lo hi)) M) : sSlF (.lst xs) lo hi M Q := ⟨xs, rfl, h⟩
theorem i_sllI {xs : List Int} {lo hi : Option Int} (h : Q (lI (cut xs lo hi)) M) : sSlF (lI xs) lo hi M Q := ⟨xs.map .int, rfl, by rw [cut_mapI]; exact h⟩
/-! built-ins -/
theorem i_lent {xs : List D} (h : Q (.int xs.length) M) : cLen [.tup xs] M Q := h
theorem i_lentI {xs : List Int} (h : Q (.int xs.length) M) : cLen [tI xs] M Q := by
  show Q (.int ((xs.map D.int).length : Nat)) M; rw [List.length_map]; exact h
theorem i_lenl {xs : List D} (h : Q (.int xs.length) M) : cLen [.lst xs] M Q := ⟨xs, rfl, h⟩
theorem i_lenlI {xs : List Int} (h : Q (.int xs.length) M) : cLen [lI xs] M Q := ⟨xs.map .int, rfl, by rw [List.length_map]; exact h⟩
theorem i_lenr {p : Addr} {xs : List D} (hp : M p = some (.lst xs)) (h : Q (.int xs.length) M) : cLen [.ref p] M Q := ⟨xs, hp, h⟩
theorem i_int {i : Int} (h : Q (.int i) M) : cInt [.int i] M Q := h
theorem i_tuplel {xs : List D} (h : Q (.tup xs) M) : cTuple [.lst xs] M Q := ⟨xs, rfl, h⟩
theorem i_tuplelI {xs : List Int} (h : Q (tI xs) M) : cTuple [lI xs] M Q := ⟨xs.map .int, rfl, h⟩
theorem i_tupler {p : Addr} {xs : List D} (hp : M p = some (.lst xs)) (h : Q (.tup xs) M) : cTuple [.ref p] M Q := ⟨xs, hp, h⟩
theorem i_tuplet {xs : List D} (h : Q (.tup xs) M) : cTuple [.tup xs] M Q := h
theorem i_tupletI {xs : List Int} (h : Q (tI xs) M) : cTuple [tI xs] M Q := h
theorem i_listF {xs : List D} (h : Q (.lst xs) M) : cListF [.tup xs] M Q := h
theorem i_listFI {xs : List Int} (h : Q (lI xs) M) : cListF [tI xs] M Q := h
theorem i_listFl {xs : List D} (h : Q (.lst xs) M) : cListF [.lst xs] M Q := ⟨xs, rfl, h⟩
theorem i_listFlI {xs : List Int} (h : Q (lI xs) M) : cListF [lI xs] M Q := ⟨xs.map .int, rfl, h⟩
theorem i_c2I {f : Int → Int → Int} {i j : Int} (h : Q (.int (f i j)) M) : c2I f [.int i, .int j] M Q := h
theorem i_c1I {f : Int → Int} {i : Int} (h : Q (.int (f i)) M) : c1I f [.int i] M Q := h
/-! methods of lists -/
theorem i_append {p : Addr} {xs : List D} (hp : M p = some (.lst xs)) (hz : xs.length < sizeLine) (h : Q .non (mset M p (.lst (xs ++ [d])))) : mAppend (.ref p) [d] M Q := ⟨xs, hp, hz, h⟩
theorem i_pop {p : Addr} {xs : List D} (hp : M p = some (.lst xs)) (e : xs[xs.length - 1]? = some d) (h : Q d (mset M p (.lst xs.dropLast))) : mPop (.ref p) [] M Q := ⟨xs, d, hp, e, h⟩
theorem i_extendt {p : Addr} {xs ys : List D} (hp : M p = some (.lst xs)) (h1 : LstAt M x ys) (hz : xs.length + ys.length ≤ sizeLine) (h : Q .non (mset M p (.lst (xs ++ ys)))) : mExtend (.ref p) [x] M Q := ⟨xs, ys, hp, h1, hz, h⟩
/-! walks -/
def rngK1 (Q : List D → (Mem → Prop) → Mem → Prop) : List D → Mem → Prop := fun xs M1 => match xs with
  | [.int j] => RngOk j ∧ Q (rangeD 0 j.toNat) (fun _ => True) M1
  | _ => False
def rngK2 (Q : List D → (Mem → Prop) → Mem → Prop) : List D → Mem → Prop := fun xs M1 => match xs with
  | [.int l, .int j] => (RngOk l ∧ RngOk j) ∧ Q (rangeD l (j - l).toNat) (fun _ => True) M1
  | _ => False
def rngK3 (Q : List D → (Mem → Prop) → Mem → Prop) : List D → Mem → Prop := fun xs M1 => match xs with
  | [.int l, .int j, .int c] => ∃ n, RgC l j c n ∧ Q (stepD l c n) (fun _ => True) M1
  | _ => False
theorem i_rg1 {Q : List D → (Mem → Prop) → Mem → Prop} (h : tas σ M (rngK1 Q) E) : aRng1 tas σ M Q E := h
theorem i_rg2 {Q : List D → (Mem → Prop) → Mem → Prop} (h : tas σ M (rngK2 Q) E) : aRng2 tas σ M Q E := h
theorem i_rg3 {Q : List D → (Mem → Prop) → Mem → Prop} (h : tas σ M (rngK3 Q) E) : aRng3 tas σ M Q E := h
theorem i_rk1 {Q : List D → (Mem → Prop) → Mem → Prop} {j : Int} (c : RngOk j) (h : Q (rangeD 0 j.toNat) (fun _ => True) M) : rngK1 Q [.int j] M := ⟨c, h⟩
theorem i_rk2 {Q : List D → (Mem → Prop) → Mem → Prop} {l j : Int} (c : RngOk l ∧ RngOk j) (h : Q (rangeD l (j - l).toNat) (fun _ => True) M) : rngK2 Q [.int l, .int j] M := ⟨c, h⟩
theorem i_rk3 {Q : List D → (Mem → Prop) → Mem → Prop} {l j c : Int} {n : Nat} (e : RgC l j c n) (h : Q (stepD l c n) (fun _ => True) M) : rngK3 Q [.int l, .int j, .int c] M := ⟨n, e, h⟩
def walkK (Q : List D → (Mem → Prop) → Mem → Prop) : DK := fun x M1 => match x with
  | .tup xs => Q xs (fun _ => True) M1
  | x => ∃ xs, LsAt M1 x xs ∧ Q xs (still x xs) M1
theorem i_walk {Q : List D → (Mem → Prop) → Mem → Prop} (h : te σ M (walkK Q) E) : aWalk te σ M Q E := h
theorem i_wkt {Q : List D → (Mem → Prop) → Mem → Prop} {xs : List D} (h : Q xs (fun _ => True) M) : walkK Q (.tup xs) M := h
theorem i_wktI {Q : List D → (Mem → Prop) → Mem → Prop} {xs : List Int} (h : Q (xs.map .int) (fun _ => True) M) : walkK Q (tI xs) M := h
theorem i_wkl {Q : List D → (Mem → Prop) → Mem → Prop} {xs : List D} (h : Q xs (fun _ => True) M) : walkK Q (.lst xs) M := ⟨xs, rfl, h⟩
theorem i_wklI {Q : List D → (Mem → Prop) → Mem → Prop} {xs : List Int} (h : Q (xs.map .int) (fun _ => True) M) : walkK Q (lI xs) M := ⟨_, rfl, h⟩
theorem i_wkr {Q : List D → (Mem → Prop) → Mem → Prop} {p : Addr} {xs : List D} (hp : M p = some (.lst xs)) (h : Q xs (fun M => M p = some (.lst xs)) M) : walkK Q (.ref p) M := ⟨xs, hp, h⟩
def revK (Q : DK) : DK := fun x M1 => match x with
  | .tup xs => Q (.tup xs.reverse) M1
  | x => ∃ xs, LsAt M1 x xs ∧ Q (.lst xs.reverse) M1
theorem i_rev (h : te σ M (revK Q) E) : aRevF te σ M Q E := h
theorem i_rvt {xs : List D} (h : Q (.tup xs.reverse) M) : revK Q (.tup xs) M := h
theorem i_rvtI {xs : List Int} (h : Q (tI xs.reverse) M) : revK Q (tI xs) M := by
  show Q (.tup (xs.map D.int).reverse) M; rw [← List.map_reverse]; exact h
theorem i_rvl {xs : List D} (h : Q (.lst xs.reverse) M) : revK Q (.lst xs) M := ⟨xs, rfl, h⟩
theorem i_rvlI {xs : List Int} (h : Q (lI xs.reverse) M) : revK Q (lI xs) M := ⟨_, rfl, by rw [← List.map_reverse]; exact h⟩
theorem i_neg (h : ta σ M (negK Q) E) : aNeg ta σ M Q E := h
theorem i_ngI {i : Int} (h : Q (.int (-i)) M) : negK Q (.int i) M := h
theorem i_part {Q : Option Int → Mem → Prop} (h : te σ M (partK Q) E) : aPart te σ M Q E := h
theorem i_ptI {Q : Option Int → Mem → Prop} {i : Int} (h : Q (some i) M) : partK Q (.int i) M := h
/-! equality -/
theorem i_eqI {b : Bool} {i j : Int} (h : Q (.bl (b ^^ decide (i = j))) M) : bEq b (.int i) (.int j) M Q := h
theorem i_eqS {b : Bool} {i j : Str} (h : Q (.bl (b ^^ decide (i = j))) M) : bEq b (.str i) (.str j) M Q := h
theorem i_eqB {b : Bool} {i j : Bool} (h : Q (.bl (b ^^ decide (i = j))) M) : bEq b (.bl i) (.bl j) M Q := h
theorem i_eqN {b : Bool} (h : Q (.bl (b ^^ true)) M) : bEq b .non .non M Q := h
theorem i_eqtI {b : Bool} {xs ys : List Int} (h : Q (.bl (b ^^ decide (xs = ys))) M) : bEq b (tI xs) (tI ys) M Q := bEq_tup h
theorem i_eqlI {b : Bool} {xs ys : List Int} (h : Q (.bl (b ^^ decide (xs = ys))) M) : bEq b (lI xs) (lI ys) M Q := bEq_lst (fun _ z => by cases z) rfl rfl h
/-! a def's exits -/
theorem i_fzI {i : Int} {k : D → Prop} (m : MLe M M') (h : k (.int i)) : fzD M M' (.int i) k := ⟨m, h⟩
theorem i_fzB {b : Bool} {k : D → Prop} (m : MLe M M') (h : k (.bl b)) : fzD M M' (.bl b) k := ⟨m, h⟩
theorem i_fzS {s : Str} {k : D → Prop} (m : MLe M M') (h : k (.str s)) : fzD M M' (.str s) k := ⟨m, h⟩
theorem i_fzN {k : D → Prop} (m : MLe M M') (h : k .non) : fzD M M' .non k := ⟨m, h⟩
theorem i_fzt {xs : List D} {k : D → Prop} (m : MLe M M') (h : k (.tup xs)) : fzD M M' (.tup xs) k := ⟨m, h⟩
theorem i_fzl {xs : List D} {k : D → Prop} (m : MLe M M') (h : k (.lst xs)) : fzD M M' (.lst xs) k := ⟨m, h⟩
theorem i_fztI {xs : List Int} {k : D → Prop} (m : MLe M M') (h : k (tI xs)) : fzD M M' (tI xs) k := ⟨m, h⟩
theorem i_fzlI {xs : List Int} {k : D → Prop} (m : MLe M M') (h : k (lI xs)) : fzD M M' (lI xs) k := ⟨m, h⟩
theorem i_fzr {p : Addr} {xs : List D} {k : D → Prop} (m : MLe M M') (h0 : M p = none) (hp : M' p = some (.lst xs)) (h : k (.lst xs)) : fzD M M' (.ref p) k := ⟨xs, h0, m, hp, h⟩
theorem i_anyrt {q : Mem → Prop} (m : MLe M M') (h : q M) : ∃ M2, MLe M2 M' ∧ q M2 := ⟨M, m, h⟩
/-! drawn numbers -/
theorem c_any {x : D} {m : Int} {X : AX} (hd : Deal M x) (hm : 0 < m ∧ m.natAbs < 2 ^ 9000) (h : ∀ r, 0 ≤ r → r < m → Q (.int r) M) : spAny [x, .int m] M Q X := ⟨x, m, rfl, hd, hm, h⟩
theorem c_ofl {x : D} {xs : List D} {X : AX} (hd : Deal M x) (h0 : xs ≠ []) (hl : xs.length < 1000000) (h : ∀ d ∈ xs, Q d M) : spOf [x, .lst xs] M Q X := ⟨x, _, xs, rfl, hd, .inr (.inl rfl), h0, hl, h⟩
theorem c_oft {x : D} {xs : List D} {X : AX} (hd : Deal M x) (h0 : xs ≠ []) (hl : xs.length < 1000000) (h : ∀ d ∈ xs, Q d M) : spOf [x, .tup xs] M Q X := ⟨x, _, xs, rfl, hd, .inl rfl, h0, hl, h⟩
end
/-! ### ways -/
class BoolP (b : Bool) (p : outParam Prop) : Prop where
  iff : b = true ↔ p
instance {p : Prop} [Decidable p] : BoolP (decide p) p := ⟨by simp⟩
instance {b : Bool} {p : Prop} [h : BoolP b p] : BoolP (true ^^ b) (¬ p) := ⟨by rw [← h.iff]; simp⟩
instance {b : Bool} {p : Prop} [h : BoolP b p] : BoolP (false ^^ b) p := ⟨by rw [← h.iff]; simp⟩
instance {b : Bool} {p : Prop} [h : BoolP b p] : BoolP (!b) (¬ p) := ⟨by rw [← h.iff]; simp⟩
instance {b c : Bool} {p q : Prop} [h : BoolP b p] [h2 : BoolP c q] : BoolP (b && c) (p ∧ q) := ⟨by rw [← h.iff, ← h2.iff]; simp⟩
instance {b c : Bool} {p q : Prop} [h : BoolP b p] [h2 : BoolP c q] : BoolP (b || c) (p ∨ q) := ⟨by rw [← h.iff, ← h2.iff]; simp⟩
instance : BoolP true True := ⟨by simp⟩
instance : BoolP false False := ⟨by simp⟩
instance {i j : Int} : BoolP (i != j) (i ≠ j) := ⟨by simp⟩
instance {i j : Nat} : BoolP (i != j) (i ≠ j) := ⟨by simp⟩
instance {α : Type} {xs : List α} : BoolP xs.isEmpty (xs = []) := ⟨by simp⟩
theorem br {b : Bool} {p A B : Prop} [h : BoolP b p] (h1 : p → A) (h2 : ¬ p → B) : (b = true → A) ∧ (b = false → B) := ⟨fun e => h1 (h.iff.mp e), fun e => h2 (fun z => by rw [h.iff.mpr z] at e; cases e)⟩
theorem brT {b : Bool} {p A B : Prop} [h : BoolP b p] (hp : p) (h1 : A) : (b = true → A) ∧ (b = false → B) := br (fun _ => h1) fun z => absurd hp z
theorem brF {b : Bool} {p A B : Prop} [h : BoolP b p] (hp : ¬ p) (h1 : B) : (b = true → A) ∧ (b = false → B) := br (fun z => absurd z hp) fun _ => h1
theorem br_ne {α : Type} [DecidableEq α] {x : α} {A B : Prop} (h : B) : ((true ^^ decide (x = x)) = true → A) ∧ ((true ^^ decide (x = x)) = false → B) := brF (by simp) h
theorem br_eq {α : Type} [DecidableEq α] {x : α} {A B : Prop} (h : A) : ((false ^^ decide (x = x)) = true → A) ∧ ((false ^^ decide (x = x)) = false → B) := brT (by simp) h
/-! ### comprehensions over known lists -/
section
variable {σ : AS} {M1 : Mem} {st : Mem → Prop} {g : AG} {tt : AT} {te : AE} {vs : List Nat} {Q : List D → Prop}
/-- each thing gives what is told of it, or nothing -/
theorem lcF_rel {α : Type} {l : List α} {enc : α → D} {xs : List D} (S : α → D → Prop) (hx : xs = l.map enc) (hst : ∀ M', MLe M1 M' → st M') (hl : l.length ≤ sizeLine)
    (body : ∀ a ∈ l, ∀ M' (P : DK) (N : Mem → Prop), MLe M1 M' → (∀ y, S a y → P y M') → g (enc a) (wipeA σ vs) M' (fun σ2 M2 => tt σ2 M2 (fun b M3 => (b = true → te σ2 M3 P EF) ∧ (b = false → N M3)) EF) EF)
    (fin : ∀ ys : List D, ys.length = l.length → (∀ (i : Nat) (a : α) (y : D), l[i]? = some a → ys[i]? = some y → S a y) → Q ys) :
    (∀ M', MLe M1 M' → st M') ∧ xs.length ≤ sizeLine ∧ ∃ R : Nat → List D → Prop, R 0 [] ∧
      (∀ i x acc M', xs[i]? = some x → acc.length ≤ i → R i acc → MLe M1 M' → g x (wipeA σ vs) M' (fun σ2 M2 => tt σ2 M2 (fun b M3 => (b = true → te σ2 M3 (fun y M4 => M4 = M' ∧ R (i + 1) (acc ++ [y])) EF) ∧ (b = false → M3 = M' ∧ R (i + 1) acc)) EF) EF) ∧ ∀ acc, R xs.length acc → Q acc := (by exact HA.Wq.get : @HA.Wq ((∀ M', MLe M1 M' → st M') ∧ xs.length ≤ sizeLine ∧ ∃ R : Nat → List D → Prop, R 0 [] ∧ (∀ i x acc M', xs[i]? = some x → acc.length ≤ i → R i acc → MLe M1 M' → g x (wipeA σ vs) M' (fun σ2 M2 => tt σ2 M2 (fun b M3 => (b = true → te σ2 M3 (fun y M4 => M4 = M' ∧ R (i + 1) (acc ++ [y])) EF) ∧ (b = false → M3 = M' ∧ R (i + 1) acc)) EF) EF) ∧ ∀ acc, R xs.length acc → Q acc) (by
  subst hx
  refine ⟨hst, by rw [List.length_map]; exact hl, fun i acc => acc.length = i ∧ ∀ (k : Nat) (a : α) (y : D), l[k]? = some a → acc[k]? = some y → S a y, ⟨rfl, fun k a y _ h => by simp at h⟩, fun i x acc M' hx _ ⟨h1, h2⟩ hM => ?_, fun acc ⟨h1, h2⟩ => fin acc (by simpa using h1) h2⟩
  rw [List.getElem?_map] at hx
  cases ha : l[i]? with
  | none => rw [ha] at hx; cases hx
  | some a =>
    rw [ha] at hx
    cases hx
    have hi := (List.getElem?_eq_some_iff.mp ha)
    refine body a (by obtain ⟨h, rfl⟩ := hi; exact List.getElem_mem h) M' _ _ hM fun y hy => ⟨rfl, by simp [h1], fun k b z hb hz => ?_⟩
    by_cases hk : k < acc.length
    · rw [List.getElem?_append_left hk] at hz; exact h2 k b z hb hz
    · rw [List.getElem?_append_right (by omega)] at hz
      by_cases e : k = i
      · subst e
        rw [ha] at hb
        cases hb
        rw [h1] at hz
        simp at hz
        subst hz; exact hy
      · rw [List.getElem?_eq_none (by simp; omega)] at hz; cases hz))
theorem lcF_map {α : Type} {l : List α} {enc f : α → D} {xs : List D} (hx : xs = l.map enc) (hst : ∀ M', MLe M1 M' → st M') (hl : l.length ≤ sizeLine)
    (body : ∀ a ∈ l, ∀ M' (P : DK) (N : Mem → Prop), MLe M1 M' → P (f a) M' → g (enc a) (wipeA σ vs) M' (fun σ2 M2 => tt σ2 M2 (fun b M3 => (b = true → te σ2 M3 P EF) ∧ (b = false → N M3)) EF) EF)
    (fin : Q (l.map f)) :
    (∀ M', MLe M1 M' → st M') ∧ xs.length ≤ sizeLine ∧ ∃ R : Nat → List D → Prop, R 0 [] ∧
      (∀ i x acc M', xs[i]? = some x → acc.length ≤ i → R i acc → MLe M1 M' → g x (wipeA σ vs) M' (fun σ2 M2 => tt σ2 M2 (fun b M3 => (b = true → te σ2 M3 (fun y M4 => M4 = M' ∧ R (i + 1) (acc ++ [y])) EF) ∧ (b = false → M3 = M' ∧ R (i + 1) acc)) EF) EF) ∧ ∀ acc, R xs.length acc → Q acc := (by exact HA.Wq.get : @HA.Wq ((∀ M', MLe M1 M' → st M') ∧ xs.length ≤ sizeLine ∧ ∃ R : Nat → List D → Prop, R 0 [] ∧ (∀ i x acc M', xs[i]? = some x → acc.length ≤ i → R i acc → MLe M1 M' → g x (wipeA σ vs) M' (fun σ2 M2 => tt σ2 M2 (fun b M3 => (b = true → te σ2 M3 (fun y M4 => M4 = M' ∧ R (i + 1) (acc ++ [y])) EF) ∧ (b = false → M3 = M' ∧ R (i + 1) acc)) EF) EF) ∧ ∀ acc, R xs.length acc → Q acc) (by
  refine lcF_rel (fun a y => y = f a) hx hst hl (fun a ha M' P N hM h => body a ha M' P N hM (h _ rfl)) fun ys h1 h2 => ?_
  have : ys = l.map f := by
    apply List.ext_getElem?
    intro i
    rw [List.getElem?_map]
    cases ha : l[i]? with
    | none => rw [List.getElem?_eq_none_iff] at ha; rw [List.getElem?_eq_none (by omega)]; rfl
    | some a =>
      obtain ⟨h, e⟩ := List.getElem?_eq_some_iff.mp ha
      have hy : i < ys.length := by omega
      have := h2 i a ys[i] ha (by simp [hy])
      rw [List.getElem?_eq_getElem hy, this]; rfl
  rw [this]; exact fin))
/-- those that are let through -/
theorem lcF_filter {α : Type} {l : List α} {enc f : α → D} {p : α → Bool} {xs : List D} (hx : xs = l.map enc) (hst : ∀ M', MLe M1 M' → st M') (hl : l.length ≤ sizeLine)
    (body : ∀ a ∈ l, ∀ M' (P : DK) (N : Mem → Prop), MLe M1 M' → (p a = true → P (f a) M') → (p a = false → N M') → g (enc a) (wipeA σ vs) M' (fun σ2 M2 => tt σ2 M2 (fun b M3 => (b = true → te σ2 M3 P EF) ∧ (b = false → N M3)) EF) EF)
    (fin : Q ((l.filter p).map f)) :
    (∀ M', MLe M1 M' → st M') ∧ xs.length ≤ sizeLine ∧ ∃ R : Nat → List D → Prop, R 0 [] ∧
      (∀ i x acc M', xs[i]? = some x → acc.length ≤ i → R i acc → MLe M1 M' → g x (wipeA σ vs) M' (fun σ2 M2 => tt σ2 M2 (fun b M3 => (b = true → te σ2 M3 (fun y M4 => M4 = M' ∧ R (i + 1) (acc ++ [y])) EF) ∧ (b = false → M3 = M' ∧ R (i + 1) acc)) EF) EF) ∧ ∀ acc, R xs.length acc → Q acc := (by exact HA.Wq.get : @HA.Wq ((∀ M', MLe M1 M' → st M') ∧ xs.length ≤ sizeLine ∧ ∃ R : Nat → List D → Prop, R 0 [] ∧ (∀ i x acc M', xs[i]? = some x → acc.length ≤ i → R i acc → MLe M1 M' → g x (wipeA σ vs) M' (fun σ2 M2 => tt σ2 M2 (fun b M3 => (b = true → te σ2 M3 (fun y M4 => M4 = M' ∧ R (i + 1) (acc ++ [y])) EF) ∧ (b = false → M3 = M' ∧ R (i + 1) acc)) EF) EF) ∧ ∀ acc, R xs.length acc → Q acc) (by
  subst hx
  refine ⟨hst, by rw [List.length_map]; exact hl, fun i acc => acc = ((l.take i).filter p).map f, rfl, fun i x acc M' hx _ h hM => ?_, fun acc h => ?_⟩
  · rw [List.getElem?_map] at hx
    cases ha : l[i]? with
    | none => rw [ha] at hx; cases hx
    | some a =>
      rw [ha] at hx
      cases hx
      obtain ⟨_, e2⟩ := split_at ha
      refine body a (by obtain ⟨h, rfl⟩ := List.getElem?_eq_some_iff.mp ha; exact List.getElem_mem h) M' _ _ hM (fun hp => ⟨rfl, ?_⟩) fun hp => ⟨rfl, ?_⟩
      · show _ = ((l.take (i + 1)).filter p).map f
        rw [e2, h]; simp [hp]
      · show _ = ((l.take (i + 1)).filter p).map f
        rw [e2, h]; simp [hp]
  · rw [List.length_map, List.take_length] at h
    rw [h]; exact fin))
end
theorem i_lcF {ti : AI} {g : AG} {tt : AT} {te : AE} {vs : List Nat} {σ : AS} {M : Mem} {Q : DK} {E : AXs} (h : ti σ M (fun xs st M1 => (∀ M', MLe M1 M' → st M') ∧ xs.length ≤ sizeLine ∧ ∃ R : Nat → List D → Prop, R 0 [] ∧
  (∀ i x acc M', xs[i]? = some x → acc.length ≤ i → R i acc → MLe M1 M' → g x (wipeA σ vs) M' (fun σ2 M2 => tt σ2 M2 (fun b M3 =>
    (b = true → te σ2 M3 (fun y M4 => M4 = M' ∧ R (i + 1) (acc ++ [y])) EF) ∧ (b = false → M3 = M' ∧ R (i + 1) acc)) EF) EF) ∧ ∀ acc, R xs.length acc → Q (.lst acc) M1) E) : aLcF ti g tt te vs σ M Q E := h
/-! folding of displays -/
theorem f0 : D.tup [] = tI [] := rfl
theorem f1 {a : Int} : D.tup [.int a] = tI [a] := rfl
theorem f2 {a b : Int} : D.tup [.int a, .int b] = tI [a, b] := rfl
theorem f3 {a b c : Int} : D.tup [.int a, .int b, .int c] = tI [a, b, c] := rfl
theorem f4 {a b c d : Int} : D.tup [.int a, .int b, .int c, .int d] = tI [a, b, c, d] := rfl
theorem f5 {a b c d e : Int} : D.tup [.int a, .int b, .int c, .int d, .int e] = tI [a, b, c, d, e] := rfl
theorem g0 : D.lst [] = lI [] := rfl
theorem g1 {a : Int} : D.lst [.int a] = lI [a] := rfl
theorem g2 {a b : Int} : D.lst [.int a, .int b] = lI [a, b] := rfl
theorem g3 {a b c : Int} : D.lst [.int a, .int b, .int c] = lI [a, b, c] := rfl
theorem g4 {a b c d : Int} : D.lst [.int a, .int b, .int c, .int d] = lI [a, b, c, d] := rfl
theorem g5 {a b c d e : Int} : D.lst [.int a, .int b, .int c, .int d, .int e] = lI [a, b, c, d, e] := rfl
theorem fmap {ns : List Int} : D.tup (ns.map D.int) = tI ns := rfl
theorem gmap {ns : List Int} : D.lst (ns.map D.int) = lI ns := rfl
theorem i_gtupI {ns : List Int} {n : Nat} {gs : AGs} {σ : AS} {M : Mem} {E : AXs} {Q' : AS → Mem → Prop} (e : ns.length = n) (h : gs (ns.map .int) σ M Q' E) : agTup n gs (tI ns) σ M Q' E := ⟨by simpa using e, h⟩
theorem i_gcI {g : AG} {gs : AGs} {a : Int} {ns : List Int} {σ : AS} {M : Mem} {E : AXs} {Q' : AS → Mem → Prop} (h : g (.int a) σ M (fun σ' M' => gs (ns.map D.int) σ' M' Q' E) E) : agCons g gs ((a :: ns).map D.int) σ M Q' E := h
theorem i_gnI {σ : AS} {M : Mem} {E : AXs} {Q' : AS → Mem → Prop} (h : Q' σ M) : agNil (([] : List Int).map D.int) σ M Q' E := h
theorem pk1 {α : Type} {a : α} : pick [0] ([a] ++ []) = [a] := rfl
theorem pk2 {α : Type} {a b : α} : pick [0, 1] ([a, b] ++ []) = [a, b] := rfl
theorem pk3 {α : Type} {a b c : α} : pick [0, 1, 2] ([a, b, c] ++ []) = [a, b, c] := rfl
theorem pk4 {α : Type} {a b c d : α} : pick [0, 1, 2, 3] ([a, b, c, d] ++ []) = [a, b, c, d] := rfl
theorem RngOk.mk {j : Int} (h : -4611686018427387904 ≤ j ∧ j < 4611686018427387904) : RngOk j := h
end HA
set_option maxHeartbeats 2000000
/-! A23: error classes one below TunnelError: __init__ says super().__init__(x) and keeps x. -/
namespace HA
open PySem PySem.Spec PySem.W PySem.Calls PyProof.Rows L2
open Builtin Builtin.ObjectAttr
def eA (f : Str) (p1 p2 : Pos) : Arguments := { posonlyargs := [], args := [{ arg := "self", annotation := none, pos := p1 }, { arg := f, annotation := none, pos := p2 }], vararg := none, kwonlyargs := [], kw_defaults := [], kwarg := none, defaults := [] }
def eB (f : Str) (a1 a2 a3 a4 a5 a6 q1 q2 q3 q4 : Pos) : List Stmt := [.Expr (.Call (.Attribute (.Call (.Name "super" a1) [] [] a2) "__init__" a3) [.Name f a4] [] a5) a6, .Assign [.Attribute (.Name "self" q1) f q2] (.Name f q3) q4]
def eS (f : Str) : Scope := { kind := .function, names := [(PySem.Str.ofString "self", .local), (f, .local), (PySem.Str.ofString "__class__", .free), (PySem.Str.ofString "super", .globalImplicit)], isGenerator := false, isCoroutine := false, more := [] }
/-- what the written part says of an error class at C, its __init__ at fI -/
structure ErrTxt (P : Program) (K : Frag) (mg : Str → Option Value) (C fI : Addr) (f : Str) : Prop where
  nf : f = "at" ∨ f = "word"
  cls : ∃ nm q N bs D sn sub ab col dd k0 k1 k2 k3 k5 nm2 q2 N2 bs2 sn2 sub2 ab2 col2 dd2 j0 j1 j2 j3 j5, K.lookup C = some (excClassObj nm q C N bs (.ref D :: ESX.exTail) true sn sub ab col dd k0 k1 k2 k3 k5 "Exception.__new__") ∧
    K.lookup D = some (excClassObj nm2 q2 D N2 bs2 ESX.exTail true sn2 sub2 ab2 col2 dd2 j0 j1 j2 j3 j5 "Exception.__new__") ∧ findIn K (.ref D) "__init__" = some (some (.builtin "Exception.__init__"))
  sa : findIn K (.ref C) "__setattr__" = some (some (.builtin "object.__setattr__"))
  ga : findIn K (.ref C) "__getattribute__" = some (some (.builtin "BaseException.__getattribute__"))
  gg : findIn K (.ref C) "__getattr__" = some none
  noN : findIn K (.ref C) f = some none
  iC : findIn K (.ref C) "__init__" = some (some (.ref fI))
  tC : typeIn K (.ref fI) = some (.type "function")
  kC : keepIn K (.ref C) = true
  exC : subIn K (.ref C) (.type "BaseException") = some true
  eeC : subIn K (.ref C) (.type "Exception") = some true
  tyC : typeIn K (.ref C) = some (.type "type")
  hdC : hasDictIn K C = true
  th : nsIn K cStatics "thirdparty.any" = some none
  sup : mg "super" = none
  top : (P.main.scope.names.lookup ("super" : Str)).isSome = false
  fn : ∃ (oc : Value) (od : Option Addr) (kV doc pm : Value) (an : Option Addr) (cda cc : Addr) (ct : Value) (osl : Array (Option Value)) (qual : Str) (p1 p2 a1 a2 a3 a4 a5 a6 q1 q2 q3 q4 : Pos) (ccl cl : Value) (cdd cld : Option Addr) (ccs csl : Array (Option Value)) (vs : Array Value) (file : Str) (tf : Tok),
    K.lookup fI = some ⟨oc, od, .func (fnX "__init__" qual (eA f p1 p2) (eB f a1 a2 a3 a4 a5 a6 q1 q2 q3 q4) (eS f) [("__class__", cc)] .none kV doc pm an (.ref cda) ct), osl⟩ ∧ codeIn K (.ref cda) qual = true ∧
    K.lookup cda = some ⟨ccl, cdd, .fields vs, ccs⟩ ∧ vs[2]? = some (.str file tf) ∧ (a3.endLine == a5.line) = true ∧ ((P.main.file : Str) == file) = true ∧ K.lookup cc = some ⟨cl, cld, .cell (some (.ref C)), csl⟩
structure MadeInit (h h' : Heap) (x C dx t1 : Addr) (f : Str) (v : Value) : Prop where
  keep : ∀ b o, b ≠ x → h.get? b = some o → h'.get? b = some o
  obj : h'.get? x = some { cls := .ref C, dict := some dx, data := .fields #[.ref t1, .none, .none, .none, .bool false, .none] }
  dbig : h.objs.size ≤ dx
  dne : dx ≠ x
  ns : h'.Ns1 dx (fun y => if y = f then some v else none)
section
variable {prog : Program} {w : World} {A : Around} {E : Value → Shared → Prop} {R : Result → Shared → Prop} {s : Shared} {K : Frag} {mg mb : Str → Option Value} {C fI : Addr} {f : Str}
/-- the store, past own classes and Exception's -/
theorem osa_own {name : Str} {tk : Tok} {v : Value} {x C D : Addr} {fv : Array Value} {cd : ClassData} {hp : Heap} {g : Array GenState} {d : Drawn} {t : Nat} {os : OsState}
    (X : K.In hp) (hx : hp.get? x = some { cls := .ref C, data := .fields fv }) (hcd : clsIn K C = some cd) (hm : cd.mro = .ref C :: .ref D :: ESX.exTail) (hh : cd.hasDict = true) (ha : findIn K (.ref C) name = some none)
    (hq : ∀ h' tk' dx, (∀ b o, b ≠ x → hp.get? b = some o → h'.get? b = some o) → hp.objs.size ≤ dx → dx ≠ x → h'.get? x = some { cls := .ref C, dict := some dx, data := .fields fv } →
      h'.Ns1 dx (fun y => if y = name then some v else none) → R (.ok (.ret .none)) ⟨h', g, d, tk', os⟩) :
    codeAny (model prog w) A (.call (.builtin "object.__setattr__") ⟨[.ref x, .str name tk, v], []⟩) R ⟨hp, g, d, t, os⟩ := by
  have I : InstAt hp x { cls := .ref C, data := .fields fv } C none := ⟨hx, rfl, rfl, trivial⟩
  have SF := F.store_object
  have hcon : cd.mro.contains (.type "object") = true := by rw [hm]; rw [List.contains_cons, List.contains_cons]; simp
  have hxs : x ≠ hp.objs.size := Nat.ne_of_lt (Heap.lt_size hx)
  have sub : Looks (model prog w) hp (isInstance (.ref x) (.type "object")) true := I.type.andThen (looks_mroIn X (by unfold mroIn; rw [hcd, Option.bind_some, if_neg (by rw [hm]; simp), hcon]))
  refine codeAny_call_builtin SF.slot.plain SF.entry (@check_slot (model prog w) _ _ ⟨hp, g, d, t, os⟩ "object.__setattr__" "object" "__setattr__" (.ref x) [.str name tk, v] [] _ SF.kind SF.split sub (SF.args (.ref x) (.str name tk) v) ?_)
  have mro : Looks (model prog w) hp (mroOf (.ref C)) cd.mro := (looks_clsIn X hcd).andThen .now
  have pass : refuseLoop (.ref x) "__setattr__" cd.mro = pure () := by rw [hm, refuseLoop_ref, refuseLoop_ref]; exact F.store_Exception.passes _
  have cl0 : Looks (model prog w) hp (classData C) cd := looks_clsIn X hcd
  rw [osa_eq, refuse_eq]
  refine wpAny_bind (wpAny_bind (I.type.at (wpAny_bind (mro.at ?_))))
  rw [pass]
  refine wpAny_pure (wpAny_bind (I.type.at (wpAny_bind ((looks_findIn X ha).at (wpAny_bind ((show Looks (model prog w) hp (storeTaker? none) none from .now).at ?_))))))
  show wpAny _ _ (storeInOwnDict (.ref x) (.ref C) (.str name tk) name v false) _ _ _
  obtain ⟨nm, bs, mr, ns, qn, hd, sn, sb, ab, col, del⟩ := cd
  dsimp only at hh
  subst hh
  unfold storeInOwnDict ownDictForStores
  repeat (first | with_reducible refine HandSPX.store_in_new ?_ ?_ | with_reducible refine wpAny_loadPart_at hx ?_ | with_reducible refine cl0.at ?_ | wp_step)
  · exact ⟨_, #[], _, (Heap.get?_update_ne _ _ _ _ hxs.symm).trans (Heap.get?_push_at rfl rfl), rfl, fun e he => absurd he (by simp), fun _ => rfl⟩
  · intro h' tk' hn' hs
    have old : (hp.push { cls := .type "dict", data := .dict #[] }).get? x = some { cls := .ref C, data := .fields fv } := Heap.get?_push_of_some _ hx
    refine hq h' tk' hp.objs.size (fun b o hb ho => ?_) (Nat.le_refl _) hxs.symm ((hs.2 x hxs).trans (Heap.get?_update_self _ old rfl)) hn'
    exact (hs.2 b (Nat.ne_of_lt (Heap.lt_size ho))).trans ((Heap.get?_update_ne _ _ _ _ hb).trans (Heap.get?_push_of_some _ ho))
theorem err_init (T : ErrTxt prog K mg C fI f) {x t0 : Addr} {v : Value} (X : K.In s.heap) (hg : s.heap.Ns mainGlobals mg) (hb : s.heap.Ns builtinsNs mb) (hbb : ∀ x : Str, x ≠ "__name__" → mb x = bootBuiltins x) (hlim : s.heap.NoLimit) (hx : s.heap.get? x = some (HandSPX.excO C t0)) (hnx : K.lookup x = none) (hroom : A.depth < recursionLimit)
    (hq : ∀ h' tk dx t1, MadeInit s.heap h' x C dx t1 f v → R (.ok (.ret .none)) { s with heap := h', toks := tk }) :
    codeAny (model prog w) A (.call (.ref fI) ⟨[.ref x, v], []⟩) R s := by
  obtain ⟨oc, od, kV, doc, pm, an, cda, cc, ct, osl, qual, p1, p2, a1, a2, a3, a4, a5, a6, q1, q2, q3, q4, ccl, cl, cdd, cld, ccs, csl, vs, file, tf, ho, hcd, hcda, hvs, hln, hfile, hcc⟩ := T.fn
  obtain ⟨nm, q, N, bs, D, sn, sub, ab, col, dd, k0, k1, k2, k3, k5, nm2, q2', N2, bs2, sn2, sub2, ab2, col2, dd2, j0, j1, j2, j3, j5, hC, hD, hDi⟩ := T.cls
  have hcl : clsIn K C = some { name := nm, bases := bs, mro := .ref C :: .ref D :: ESX.exTail, ns := N, qualname := q, hasDict := true, slotNames := sn, subclasses := sub, abstract := ab, collection := col, hasDel := false } := by unfold clsIn; rw [hC] <;> rfl
  have hal : alongIn K "__init__" (.ref D :: ESX.exTail) = some (some (.builtin "Exception.__init__")) := by
    have e := hDi
    unfold findIn at e
    dsimp only at e
    rw [hD] at e
    exact e
  refine ks_codeAny_call_defAt (binds := [("self", .ref x), (f, v)]) hroom (X _ _ ho) rfl hlim (codeRec_of X hcd) rfl (BindsTo.of_eq ?_) ?_ ?_ (fun h₁ hn k => ?_)
  · rcases T.nf with rfl | rfl <;> rfl
  · intro y hy; have hy : y ∈ (eS f).names := hy; simp only [eS, List.mem_cons, List.not_mem_nil, or_false] at hy; rcases hy with rfl | rfl | rfl | rfl <;> (intro z; cases z)
  · rcases T.nf with rfl | rfl <;> (intro y hy; simp only [List.mem_cons, List.not_mem_nil, or_false] at hy; rcases hy with rfl | rfl <;> rfl)
  obtain ⟨hp, g, dr, tk, os⟩ := s
  dsimp only at hn k ⊢
  have X1 : K.In h₁ := X.keeps k
  have hx1 := k _ _ hx
  have fself : List.lookup (PySem.Str.ofString "self") (List.reverse [((PySem.Str.ofString "self"), Value.ref x), (f, v)]) = some (.ref x) := by rcases T.nf with rfl | rfl <;> rfl
  have ff : List.lookup f (List.reverse [((PySem.Str.ofString "self"), Value.ref x), (f, v)]) = some v := by rcases T.nf with rfl | rfl <;> rfl
  have fdb : (f == ("__debug__" : Str)) = false := by rcases T.nf with rfl | rfl <;> decide
  generalize hfd : fnX "__init__" qual (eA f p1 p2) (eB f a1 a2 a3 a4 a5 a6 q1 q2 q3 q4) (eS f) [("__class__", cc)] .none kV doc pm an (.ref cda) ct = fd at *
  have ek : ∀ y, (callEnv fd hp.objs.size fI).kindOf y = (eS f).names.lookup y := by subst hfd; intro y; rfl
  have ksuper : (callEnv fd hp.objs.size fI).kindOf "super" = some .globalImplicit := by rw [ek]; rcases T.nf with rfl | rfl <;> rfl
  have kclass : (callEnv fd hp.objs.size fI).kindOf "__class__" = some .free := by rw [ek]; rcases T.nf with rfl | rfl <;> rfl
  have kself : (callEnv fd hp.objs.size fI).kindOf "self" = some .local := by rw [ek]; rfl
  have kf : (callEnv fd hp.objs.size fI).kindOf f = some .local := by rw [ek]; rcases T.nf with rfl | rfl <;> rfl
  have kk : (callEnv fd hp.objs.size fI).scope.kind = .function := by subst hfd; rfl
  have hgl : (callEnv fd hp.objs.size fI).globals = mainGlobals := by subst hfd; rfl
  have hbl : (callEnv fd hp.objs.size fI).builtins = builtinsNs := by subst hfd; rfl
  have hlo : (callEnv fd hp.objs.size fI).locals = hp.objs.size := by subst hfd; rfl
  have hcl2 : (callEnv fd hp.objs.size fI).cells = [(PySem.Str.ofString "__class__", cc)] := by subst hfd; rfl
  have hint : interactive (callEnv fd hp.objs.size fI) = false := by subst hfd; rfl
  refine ks_wpAt_execs_cons (ks_wpAt_Expr_any (ks_wpAt_MethodCall (pl := (do return (← importBound (.Call (.Name "super" a1) [] [] a2) (callEnv fd hp.objs.size fI)).getD true)) ?_ ?_) hint)
  rotate_left
  · show (do let ov ← attributeBase (.Call (.Name "super" a1) [] [] a2) "__init__" (callEnv fd hp.objs.size fI) (PySem.eval (.Call (.Name "super" a1) [] [] a2) (callEnv fd hp.objs.size fI)); standAt a3.atName; methodCall (.Call (.Name "super" a1) [] [] a2) "__init__" a3 a5 (callEnv fd hp.objs.size fI) ov 1 (backTo a5 (starEach [.Name f a4] (callEnv fd hp.objs.size fI))) []) = _
    unfold methodCall methodCallPos
    simp only [hln, Bool.or_true, if_true]
    rfl
  refine ks_wpAt_super_base (ar := { arg := "self", annotation := none, pos := p1 }) ksuper kclass rfl rfl (X1 _ _ ho) rfl (by subst hfd; rfl) (by subst hfd; rfl) (X1 _ _ hcda) rfl hvs hfile T.top ?_
  refine ks_loadName_global kk ksuper (loadGlobal_builtin (by rw [hgl]; exact hg.keeps k) T.sup (by rw [hbl]; exact hb.keeps k) ((hbb _ (by decide)).trans (by decide +kernel)) ⟨rfl, ?_⟩)
  refine wpAny_loadName_free kk kclass (by rw [hcl2]; rfl) ⟨_, X1 _ _ hcc, rfl⟩ ?_
  refine wpAny_loadName_local kk kself (by rw [hlo]; exact hn) fself ?_
  refine ks_wpAny_isType_cls (X1 _ _ hC) rfl ⟨rfl, ?_⟩
  have I1 : InstAt h₁ x (HandSPX.excO C t0) C none := ⟨hx1, rfl, rfl, trivial⟩
  refine ks_wpAny_call_super (X1 _ _ hC) rfl hx1 rfl (fun c e => by cases e) (looks_mroIn X1 (by unfold mroIn; rw [hcl]; simp)) (fun h2 e2 k2 => ?_)
  have X2 : K.In h2 := X1.keeps k2
  have hx2 := k2 _ _ hx1
  have I2 : InstAt h2 x (HandSPX.excO C t0) C none := ⟨hx2, rfl, rfl, trivial⟩
  refine ESX.getMethod_super e2 (looks_opaque X2 T.th) (l₀ := .ref C :: .ref D :: ESX.exTail) ((looks_clsIn X2 hcl).andThen .now) (ESX.drop_own C _) X2 hal ?_ (by decide) (I2.type.andThen (looks_subIn X2 T.eeC)) ?_
  · intro z; rw [z] at hnx; rw [hC] at hnx; cases hnx
  have k3 : ∀ b o, h2.get? b = some o → (h2.push (ESX.bw x)).get? b = some o := fun b o e => Heap.get?_push_of_some _ e
  have hu3 : (h2.push (ESX.bw x)).get? h2.objs.size = some (ESX.bw x) := Heap.get?_push_at rfl rfl
  have hn3 : (h2.push (ESX.bw x)).Ns hp.objs.size (fun y => List.lookup y (List.reverse [((PySem.Str.ofString "self"), Value.ref x), (f, v)])) := (hn.keeps k2).keeps k3
  refine ESX.callWith_bound (x := x) ?_
  refine spliced_more (wpAny_Name (wpAny_loadName_local kk kf (by rw [hlo]; exact hn3) ff (spliced_none ⟨hu3, ?_⟩)) fdb)
  refine ESX.call_bw (k3 _ _ (X2 _ _ hC)) (k3 _ _ hx2) hu3 (by show 1 ≤ sizeLine; rw [sizeLine_eq]; decide) fun h4 t1 k4 hx4 => ?_
  have nh : ∀ b o, h₁.get? b = some o → b ≠ x → h4.get? b = some o := fun b o e hb => k4 b o hb (k3 _ _ (k2 _ _ e))
  have X4 : K.In h4 := fun b o e => nh b o (X1 _ _ e) (fun z => by rw [z, hnx] at e; cases e)
  have hxL : hp.objs.size ≠ x := Nat.ne_of_gt (Heap.lt_size hx)
  have hn4 : h4.Ns hp.objs.size (fun y => List.lookup y (List.reverse [((PySem.Str.ofString "self"), Value.ref x), (f, v)])) := hn3.at fun o e => k4 _ _ hxL e
  refine wpAt_of_wpAny (wpAny_execs_cons (plainObj_wpAny_Assign_Attribute ?_ ?_))
  · refine wpAny_Name (wpAny_loadName_local kk kf (by rw [hlo]; exact hn4) ff ?_) fdb
    refine wpAny_Name (wpAny_loadName_local kk kself (by rw [hlo]; exact hn4) fself ?_) (by decide)
    refine set_plain X4 (ox := HandSPX.excO C t1) (od := none) ⟨hx4, rfl, rfl, trivial⟩ T.sa ?_
    refine osa_own X4 hx4 hcl rfl rfl T.noN (fun h5 tk5 dx k5 dn dne hx5 hn5 => ?_)
    show wpAny _ _ (execs _ _) _ _ _
    have z4 : hp.objs.size < h4.objs.size := hn4.lt
    exact wpAny_execs_nil (hq h5 tk5 dx t1 ⟨fun b o hb e => k5 b o hb (nh b o (k b o e) hb), hx5, Nat.le_of_lt (Nat.lt_of_lt_of_le z4 dn), dne, hn5⟩)
  · rfl
theorem tail_same {D : Addr} (X : String) : (Value.ref D :: ESX.exTail).contains (.type X) = ESX.exTail.contains (.type X) := by
  rw [List.contains_cons]; rfl
/-- a made one -/
structure MadeErr (h h' : Heap) (e C d : Addr) (f : Str) (v : Value) : Prop where
  keep : ∀ b o, h.get? b = some o → h'.get? b = some o
  new : h.objs.size ≤ e
  obj : ∃ oe vs, h'.get? e = some oe ∧ oe.cls = .ref C ∧ oe.dict = some d ∧ oe.data = .fields vs ∧ vs[1]? = some .none
  dbig : h.objs.size ≤ d
  dne : d ≠ e
  ns : h'.Ns1 d (fun y => if y = f then some v else none)
theorem err_made (T : ErrTxt prog K mg C fI f) {v : Value} (X : K.In s.heap) (hg : s.heap.Ns mainGlobals mg) (hb : s.heap.Ns builtinsNs mb) (hbb : ∀ x : Str, x ≠ "__name__" → mb x = bootBuiltins x) (hlim : s.heap.NoLimit) (hroom : A.depth + 1 < recursionLimit)
    (hq : ∀ h' tk e d, MadeErr s.heap h' e C d f v → R (.ok (.ret (.ref e))) { s with heap := h', toks := tk }) :
    codeAny (model prog w) A (.call (.ref C) ⟨[v], []⟩) R s := by
  obtain ⟨nm, q, N, bs, D, sn, sub, ab, col, dd, k0, k1, k2, k3, k5, nm2, q2', N2, bs2, sn2, sub2, ab2, col2, dd2, j0, j1, j2, j3, j5, hC, hD, hDi⟩ := T.cls
  obtain ⟨hp, g, dr, tk, os⟩ := s
  dsimp only at hq ⊢
  have k : ∀ b o, hp.get? b = some o → ((hp.push (kdv_tup [v])).push (HandSPX.excO C hp.objs.size)).get? b = some o := fun b o e => Heap.get?_push_of_some _ (Heap.get?_push_of_some _ e)
  have hget : ((hp.push (kdv_tup [v])).push (HandSPX.excO C hp.objs.size)).get? (hp.objs.size + 1) = some (HandSPX.excO C hp.objs.size) := by heap_get
  have hnx : K.lookup (hp.objs.size + 1) = none := by
    cases e : K.lookup (hp.objs.size + 1) with
    | none => rfl
    | some o => exact absurd (Nat.lt_of_succ_lt (Heap.lt_size (show hp.get? (hp.objs.size + 1) = some o from X _ _ e))) (Nat.lt_irrefl _)
  refine HandSPX.call_own F.excBase_Exception (fun Y => tail_same Y) (X _ _ hC) (looks_findIn X T.iC) (fun self => bind_fn X self T.tC) (by show 1 ≤ sizeLine; rw [sizeLine_eq]; decide) ?_
  refine err_init (s := ⟨(hp.push (kdv_tup [v])).push (HandSPX.excO C hp.objs.size), g, dr, tk, os⟩) T (X.keeps k) (hg.keeps k) (hb.keeps k) hbb (hlim.keeps k) hget hnx ?_ fun h' tk' dx t1 ⟨k', hx, dn, dne, hns⟩ => ?_
  · show A.depth + 1 < recursionLimit
    exact hroom
  · have old : ∀ b o, hp.get? b = some o → h'.get? b = some o := fun b o e => k' b o (Nat.ne_of_lt (Nat.lt_succ_of_lt (Heap.lt_size e))) (k b o e)
    have z : hp.objs.size + 1 + 1 ≤ dx := by
      have q := dn
      rw [Heap.size_push, Heap.size_push] at q
      exact q
    exact ⟨rfl, hq h' tk' (hp.objs.size + 1) dx ⟨old, Nat.le_succ _, ⟨_, _, hx, rfl, rfl, rfl, rfl⟩, Nat.le_trans (Nat.le_trans (Nat.le_succ _) (Nat.le_succ _)) z, dne, hns⟩⟩
end
section
variable {X : Cx} {C fI : Addr} {f : Str}
theorem relO_one {v : V} {v' : Value} (r : RelV v v') (y : Str) : RelO (List.lookup y [(f, v)]) (if y = f then some v' else none) := (by exact HA.Wq.get : @HA.Wq (RelO (List.lookup y [(f, v)]) (if y = f then some v' else none)) (by
  by_cases hw : y = f
  · subst hw
    rw [if_pos rfl]
    have q : List.lookup y [(y, v)] = some v := by simp [List.lookup]
    rw [q]; exact r
  · rw [if_neg hw]
    have qw : (y == f) = false := by simpa using hw
    have q2 : List.lookup y [(f, v)] = none := by simp [List.lookup, qw]
    rw [q2]; trivial))
/-- C(e) -/
def tMkErr (C : Addr) (f : Str) (ta : TA) : L2.St → Hp → XK → Prop := fun σ H Q => ta σ H fun vs H1 => ∃ v, vs = [v] ∧ ∀ d, H1 d = none → Q (.ref C) (some d) (upd H1 d (.xd [(f, v)]))
theorem pmk_err {x : Str} {a : PySem.Expr} {ta : TA} {p pos : Pos} {k : Nat} (T : ErrTxt X.prog X.K X.mg C fI f) (gC : X.mg x = some (.ref C)) (hr : Room k X.A) (hk : 1 ≤ k) (ha : PA X [a] ta) (hg : Gl X x := by rfl) (hdb : (x == ("__debug__" : Str)) = false := by decide)
    (he : starEach (a :: []) X.env = (false, PySem.eval a X.env) :: starEach [] X.env := by rfl) (hpl : (backTo pos (starEach [] X.env)).any (·.1) = false := by rfl) :
    PMk X (.Call (.Name x p) [a] [] pos) (tMkErr C f ta) := by
  intro pins s σ H Q I h
  refine wpAny_Call_Name_kw (ld_glob I hg gC ?_ hdb)
  refine callWith_K (h₀ := X.base) I.ok.mod.kin T.kC (thn (ha.run pos pins s σ H _ I h) fun us s1 hh => ?_) he hpl
  obtain ⟨vs, H1, I1, r1, v, ev, q1⟩ := hh
  subst ev
  refine ⟨I1.kIn, ?_⟩
  cases r1 with
  | cons rv rn =>
    rename_i v' us'
    cases rn
    show wpAny _ _ (call (.ref C) [v']) _ _ _
    have hlim := I1.nolimit
    obtain ⟨mb, hb, hbb⟩ := I1.ok.mod.blt
    have kb : ∀ b o, X.base.get? b = some o → s1.heap.get? b = some o := fun b o e => I1.bk b o e
    obtain ⟨hp, g, dr, tk, os⟩ := s1
    refine wpAny_call (err_made T I1.kIn (I1.ok.mod.glob.keeps kb) (hb.keeps kb) hbb hlim (by have := hr.dp; omega) fun h' tk' e d M => ?_)
    show MkP X pins σ Q (.ref e) ⟨h', g, dr, tk', os⟩
    obtain ⟨oe, fv, hoe, hc, hd, hdat, h1⟩ := M.obj
    have hns := M.ns
    obtain ⟨G', g1, g2⟩ := restrict h' fun b => decide (b ≠ e)
    have gk : ∀ b, b ≠ e → G'.get? b = h'.get? b := fun b hb => g1 b (decide_eq_true hb)
    have ge : G'.get? e = none := g2 e (by simp)
    have old : ∀ b o, hp.get? b = some o → G'.get? b = some o := fun b o q => (gk b (Nat.ne_of_lt (Nat.lt_of_lt_of_le (Heap.lt_size q) M.new))).trans (M.keep b o q)
    have ob : ObjOk X.prog X.w (upd H1 d (.xd [(f, v)])) G' d (.xd [(f, v)]) := ⟨_, hns.at (fun o q => (gk d M.dne).trans q), fun y => relO_one rv y⟩
    have J : Inv X pins σ (upd H1 d (.xd [(f, v)])) ⟨G', g, dr, tk', os⟩ := I1.laid (t' := tk') old M.dbig ob
    refine ⟨e, oe, fv, ⟨G', g, dr, tk', os⟩, _, .ref C, some d, rfl, J, fun b o q => ?_, ge, hoe, ⟨hc, hd⟩, hdat, h1, ?_, rfl, I1.bare, raises_own T.exC T.tyC, q1 d (I1.hok.fresh M.dbig)⟩
    · by_cases hb : b = e
      · have q' : G'.get? b = some o := q
        rw [hb, ge] at q'; cases q'
      · exact (gk b hb).symm.trans q
    · rw [upd_ne (Ne.symm M.dne)]
      exact I1.hok.fresh M.new
end
end HA
set_option maxHeartbeats 2000000
/-! A24: raise, try .. except over trees. -/
namespace HA
open PySem PySem.Spec L2
section
variable {X : Cx} {B : Hp} {W : WX} {C fI : Addr} {f : Str} {te : AE} {tas : AA}
/-! ### raise C(e) -/
@[simp] def aRaise (C : Addr) (f : Str) (te : AE) : ASt := fun D σ M => te σ M (fun d M1 => D.xx σ C [(f, d)] M1) D.xx
theorem qs_raise {x : Str} {a : PySem.Expr} {p pos pos2 : Pos} {k : Nat} (hc : X.calm = true) (T : ErrTxt X.prog X.K X.mg C fI f) (gC : X.mg x = some (.ref C)) (hr : Room k X.A) (hk : 1 ≤ k) (tk : Takes X W) (ha : QE X B W a te) (hg : Gl X x := by rfl) (hdb : (x == ("__debug__" : Str)) = false := by decide)
    (he : starEach (a :: []) X.env = (false, PySem.eval a X.env) :: starEach [] X.env := by rfl) (hpl : (backTo pos (starEach [] X.env)).any (·.1) = false := by rfl) :
    QS X B W (.Raise (some (.Call (.Name x p) [a] [] pos)) none pos2) (aRaise C f te) := by
  refine ps_imp (ps_raise hc tk (pmk_err T gC hr hk (qa_cons ha qa_nil he) hg hdb he hpl)) fun Dc s H ⟨G, σ, M, D, ss, h, kn, kr, kb, kc, kx⟩ => ?_
  have e : (fun (x : HA.D) (M1 : Mem) => ∃ d, [x] = [d] ∧ D.xx σ C [(f, d)] M1) = (fun d M1 => D.xx σ C [(f, d)] M1) := by
    funext x M1
    apply propext
    constructor
    · rintro ⟨d, e, q⟩; cases e; exact q
    · intro q; exact ⟨x, rfl, q⟩
  refine ⟨G, σ, M, (fun ds M1 => ∃ d, ds = [d] ∧ D.xx σ C [(f, d)] M1), D.xx, ss, (by show te σ M (fun (x : HA.D) (M1 : Mem) => ∃ d, [x] = [d] ∧ D.xx σ C [(f, d)] M1) D.xx; rw [e]; exact h), fun vs H1 ds M1 G1 e1 m1 r1 q1 => ?_, kx⟩
  obtain ⟨d, rfl, q⟩ := q1
  obtain ⟨v, rfl, rv⟩ := rpa1 r1
  refine ⟨v, rfl, fun dd hd => kx _ _ _ _ ⟨C, [(f, d)], dd, [(f, v)], σ, M1, G1, rfl, rfl, ?_, upd_same, .cons ⟨rfl, rv⟩ .nil, q⟩⟩
  have s1 := ss.with e1 m1
  exact ⟨s1.base, s1.mem.ext (same_upd hd), s1.len, s1.sl⟩
/-! ### try -/
theorem SM.pin {K : PySem.W.Frag} {G H : Hp} {M : Mem} {a : Addr} {fs : List (Str × V)} (s : SM K G M H) (h : H a = some (.xd fs)) : Same G (upd G a (.xd fs)) ∧ SM K (upd G a (.xd fs)) M H := (by exact HA.Wq.get : @HA.Wq (Same G (upd G a (.xd fs)) ∧ SM K (upd G a (.xd fs)) M H) (by
  have g : Same G (upd G a (.xd fs)) := fun b u e => by
    by_cases hb : b = a
    · subst hb
      have := s.same _ _ e
      rw [h] at this
      rw [upd_same]; exact this
    · rw [upd_ne hb]; exact e
  refine ⟨g, fun b u e => ?_, fun b c e => ?_⟩
  · by_cases hb : b = a
    · subst hb; rw [upd_same] at e; rw [h]; exact e
    · rw [upd_ne hb] at e; exact s.same _ _ e
  · obtain ⟨h1, h2⟩ := s.cell b c e
    have nb : b ≠ a := fun z => by
      subst z
      cases c with
      | lst xs => obtain ⟨vs, r, z⟩ := h2; rw [h] at z; cases z
      | ins C fs => obtain ⟨dx, vs, r, z⟩ := h2; rw [h] at z; cases z
      | deal l => obtain ⟨n, r, z⟩ := h2; rw [h] at z; cases z
      | pool => obtain ⟨ns, r1, r2, z⟩ := h2; rw [h] at z; cases z
      | tab q => obtain ⟨us, z, r⟩ := h2; rw [h] at z; cases z
      | rng lo hi => have z : H b = _ := h2; rw [h] at z; cases z
      | set S n => have z : H b = _ := h2; rw [h] at z; cases z
      | dic kvs => obtain ⟨vs, r, z⟩ := h2; rw [h] at z; cases z
      | dtp kvs => obtain ⟨vs, r, z⟩ := h2; rw [h] at z; cases z
    exact ⟨by rw [upd_ne nb]; exact h1, h2.up g rfl⟩))
/-- a suite as it is read: the exception at a, of class C, with the fields fs -/
abbrev ASu := Addr → Addr → List (Str × D) → ASt
/-- the suite's derivation -/
def SuOk (X : Cx) (body : List Stmt) (ts : ASu) : Prop := ∀ (a : Addr) (oe : Obj) (C dd : Addr) (pn : List (Addr × Obj)) (B : Hp) (fs : List (Str × D)) (vs : List (Str × V)), Zc (.ref C) (some dd) oe → (∃ vs, oe.data = .fields vs) → B dd = some (.xd vs) → FR X.K B fs vs →
  QSs (X.suite a ((a, oe) :: pn)) B W0 body (ts a C fs)
/-- the body's -/
def TbOk (X : Cx) (B0 : Hp) (body : List Stmt) (tb : ASt) : Prop := ∀ (B : Hp) (W' : WX) (pn : List (Addr × Obj)) (xe : Value → Shared → Prop), Same B0 B → Takes (X.tr pn xe) W' → PassesOwn (model X.prog X.w) X.A X.env xe → QSs (X.tr pn xe) B W' body tb
/-- what a clause wishes -/
def xTry (K : PySem.W.Frag) (c : Addr) (ts : Addr → Addr → List (Str × D) → AS → Mem → Prop) (xx : AXs) : AXs := fun σ C fs M => ∃ b, PySem.W.exmOne K (.ref C) (.ref c) = some b ∧ (b = true → ∀ a, M a = none → ts a C fs σ M) ∧ (b = false → xx σ C fs M)
/-- the ends of a suite whose exception is in slot i -/
def suE (D' : AEn) (i : Nat) : AEn := ⟨fun σ M => D'.nx (σ.set i none) M, D'.rt, fun σ M => D'.bk (σ.set i none) M, fun σ M => D'.ct (σ.set i none) M, EF⟩
def aTryAs (K : PySem.W.Frag) (c : Addr) (i : Nat) (tb : ASt) (ts : ASu) : ASt := fun D' σ M => tb { D' with xx := xTry K c (fun a C fs σ' M' => ts a C fs (suE D' i) (σ'.set i (some (.ref a))) M') D'.xx } σ M
def aTryOnly (K : PySem.W.Frag) (c : Addr) (tb : ASt) (ts : ASu) : ASt := fun D' σ M => tb { D' with xx := xTry K c (fun a C fs σ' M' => ts a C fs { D' with xx := EF } σ' M') D'.xx } σ M
theorem SS.unset {K : PySem.W.Frag} {G H : Hp} {σ : AS} {M : Mem} {s : L2.St} (ss : SS K B G σ M s H) (j : Nat) : SS K B G (σ.set j none) M (s.set j none) H := ⟨ss.base, ss.mem, by simp [ss.len], fun k d h => by
  by_cases hk : j = k
  · subst hk
    by_cases hl : j < σ.length
    · rw [List.getElem?_set_self hl] at h; cases h
    · rw [List.getElem?_eq_none (by simp; omega)] at h; cases h
  · rw [List.getElem?_set_ne hk] at h
    obtain ⟨v, h1, h2⟩ := ss.sl k d h
    exact ⟨v, by rw [List.getElem?_set_ne hk]; exact h1, h2⟩⟩
/-- over another base -/
theorem SS.onto {K : PySem.W.Frag} {B2 G H : Hp} {σ : AS} {M : Mem} {s : L2.St} (ss : SS K B2 G σ M s H) (h : Same B G) : SS K B G σ M s H := ⟨h, ss.mem, ss.len, ss.sl⟩
/-- a suite over all that it may meet -/
def suT (X : Cx) (ts : ASu) : Addr → Value → Option Addr → TS := fun a cls d Dc s H => ∃ C dd fs vs B, cls = .ref C ∧ d = some dd ∧ B dd = some (.xd vs) ∧ FR X.K B fs vs ∧ LS X.K B W0 (ts a C fs) Dc s H
theorem su_run {body : List Stmt} {ts : ASu} (hsu : SuOk X body ts) (a : Addr) (oe : Obj) (cls : Value) (d : Option Addr) (pn : List (Addr × Obj)) (hz : Zc cls d oe) (hf : ∃ vs, oe.data = .fields vs) : PSs (X.suite a ((a, oe) :: pn)) body (suT X ts a cls d) := by
  refine ⟨fun pins s σ H Dc I ⟨C, dd, fs, vs, B', e1, e2, e4, e5, h⟩ => ?_⟩
  subst e1 e2
  exact (hsu a oe C dd pn B' fs vs hz hf e4 e5).run pins s σ H Dc I h
/-- a body over any base -/
def tbT (X : Cx) (B0 : Hp) (tb : ASt) : WX → TS := fun W' Dc s H => ∃ B, Same B0 B ∧ LS X.K B W' tb Dc s H
theorem tb_run {body : List Stmt} {tb : ASt} {B0 : Hp} (hb : TbOk X B0 body tb) (W' : WX) (pn : List (Addr × Obj)) (xe : Value → Shared → Prop) (tk : Takes (X.tr pn xe) W') (hp : PassesOwn (model X.prog X.w) X.A X.env xe) : PSs (X.tr pn xe) body (tbT X B0 tb W') :=
  ⟨fun pins s σ H Dc I ⟨B', sb, h⟩ => (hb B' W' pn xe sb tk hp).run pins s σ H Dc I h⟩
theorem noW0 {K : PySem.W.Frag} {B : Hp} : ∀ c d s' H', Wx K B EF c d s' H' → W0 c d s' H' := fun c d s' H' ⟨_, _, _, _, _, _, _, _, _, _, _, _, z⟩ => z
section
variable {x n : Str} {c : Addr} {i : Nat} {body suite : List Stmt} {b0 : Stmt} {np pos pos' : Pos} {tb : ASt} {ts : ASu}
theorem qs_try_as (hs : X.stack = X.env :: X.outer) (hf : X.env.frame = some X.env.locals) (hN : X.N.Nodup) (hi : X.N[i]? = some n) (hln : X.env.kindOf n = some .local) (hc : Names X x (.ref c)) (tk : Takes X W)
    (hb : TbOk X B body tb) (hsu : SuOk X (b0 :: suite) ts) :
    QS X B W (.Try body [.ExceptHandler (some (.Name x np)) (some n) (b0 :: suite) pos'] [] [] pos) (aTryAs X.K c i tb ts) := (by exact HA.Wq.get : @HA.Wq (QS X B W (.Try body [.ExceptHandler (some (.Name x np)) (some n) (b0 :: suite) pos'] [] [] pos) (aTryAs X.K c i tb ts)) (by
  refine ps_imp (ps_try_as (tb := tbT X B tb) (ts := suT X ts) (Wout := W) hs hf hN hi hln hc tk (tb_run hb) (su_run hsu)) fun Dc s H ⟨G, σ, M, D', ss, h, kn, kr, kb, kc, kx⟩ => ?_
  refine ⟨G, ss.base, G, σ, M, _, ss.onto (Same.refl G), h, fun s' H' σ' M' G' e ss' => kn s' H' σ' M' G' e (ss'.onto (ss.base.trans e)), kr, fun s' H' σ' M' G' e ss' => kb s' H' σ' M' G' e (ss'.onto (ss.base.trans e)), fun s' H' σ' M' G' e ss' => kc s' H' σ' M' G' e (ss'.onto (ss.base.trans e)), fun cl d s' H' ⟨C, fs, dd, vs, σ', M', G', e1, e2, s5, h1, h2, b, q1, q2, q3⟩ => ?_⟩
  subst e1 e2
  refine ⟨b, q1, fun hb a ha => ?_, fun hb => kx _ _ _ _ ⟨C, fs, dd, vs, σ', M', G', rfl, rfl, s5.onto (ss.base.trans s5.base), h1, h2, q3 hb⟩⟩
  obtain ⟨g, m⟩ := s5.mem.pin h1
  have gG := s5.base.trans g
  have sB : SS X.K (upd G' dd (.xd vs)) (upd G' dd (.xd vs)) σ' M' s' H' := ⟨Same.refl _, m, s5.len, fun i d z => let ⟨v, h1, h2⟩ := s5.sl i d z; ⟨v, h1, h2.up g⟩⟩
  refine ⟨C, dd, fs, vs, upd G' dd (.xd vs), rfl, rfl, upd_same, h2.up g, _, _, M', suE D' i, (sB.set i (.ref a)), q2 hb a (s5.mem.free ha).2, ?_, ?_, ?_, ?_, noW0⟩
  · exact fun s6 H6 σ6 M6 G6 e6 ss6 q6 => kn _ H6 _ M6 G6 (gG.trans e6) ((ss6.onto (ss.base.trans (gG.trans e6))).unset i) q6
  · exact fun v H6 kv => kr v H6 (kv.lift gG)
  · exact fun s6 H6 σ6 M6 G6 e6 ss6 q6 => kb _ H6 _ M6 G6 (gG.trans e6) ((ss6.onto (ss.base.trans (gG.trans e6))).unset i) q6
  · exact fun s6 H6 σ6 M6 G6 e6 ss6 q6 => kc _ H6 _ M6 G6 (gG.trans e6) ((ss6.onto (ss.base.trans (gG.trans e6))).unset i) q6))
theorem qs_try_only (hs : X.stack = X.env :: X.outer) (hf : X.env.frame = some X.env.locals) (hc : Names X x (.ref c)) (tk : Takes X W) (hb : TbOk X B body tb) (hsu : SuOk X (b0 :: suite) ts) :
    QS X B W (.Try body [.ExceptHandler (some (.Name x np)) none (b0 :: suite) pos'] [] [] pos) (aTryOnly X.K c tb ts) := (by exact HA.Wq.get : @HA.Wq (QS X B W (.Try body [.ExceptHandler (some (.Name x np)) none (b0 :: suite) pos'] [] [] pos) (aTryOnly X.K c tb ts)) (by
  refine ps_imp (ps_try_only (tb := tbT X B tb) (ts := suT X ts) (Wout := W) hs hf hc tk (tb_run hb) (su_run hsu)) fun Dc s H ⟨G, σ, M, D', ss, h, kn, kr, kb, kc, kx⟩ => ?_
  refine ⟨G, ss.base, G, σ, M, _, ss.onto (Same.refl G), h, fun s' H' σ' M' G' e ss' => kn s' H' σ' M' G' e (ss'.onto (ss.base.trans e)), kr, fun s' H' σ' M' G' e ss' => kb s' H' σ' M' G' e (ss'.onto (ss.base.trans e)), fun s' H' σ' M' G' e ss' => kc s' H' σ' M' G' e (ss'.onto (ss.base.trans e)), fun cl d s' H' ⟨C, fs, dd, vs, σ', M', G', e1, e2, s5, h1, h2, b, q1, q2, q3⟩ => ?_⟩
  subst e1 e2
  refine ⟨b, q1, fun hb a ha => ?_, fun hb => kx _ _ _ _ ⟨C, fs, dd, vs, σ', M', G', rfl, rfl, s5.onto (ss.base.trans s5.base), h1, h2, q3 hb⟩⟩
  obtain ⟨g, m⟩ := s5.mem.pin h1
  have gG := s5.base.trans g
  have sB : SS X.K (upd G' dd (.xd vs)) (upd G' dd (.xd vs)) σ' M' s' H' := ⟨Same.refl _, m, s5.len, fun i d z => let ⟨v, h1, h2⟩ := s5.sl i d z; ⟨v, h1, h2.up g⟩⟩
  refine ⟨C, dd, fs, vs, upd G' dd (.xd vs), rfl, rfl, upd_same, h2.up g, _, _, M', _, sB, q2 hb a (s5.mem.free ha).2, ?_, ?_, ?_, ?_, noW0⟩
  · exact fun s6 H6 σ6 M6 G6 e6 ss6 q6 => kn _ H6 _ M6 G6 (gG.trans e6) (ss6.onto (ss.base.trans (gG.trans e6))) q6
  · exact fun v H6 kv => kr v H6 (kv.lift gG)
  · exact fun s6 H6 σ6 M6 G6 e6 ss6 q6 => kb _ H6 _ M6 G6 (gG.trans e6) (ss6.onto (ss.base.trans (gG.trans e6))) q6
  · exact fun s6 H6 σ6 M6 G6 e6 ss6 q6 => kc _ H6 _ M6 G6 (gG.trans e6) (ss6.onto (ss.base.trans (gG.trans e6))) q6))
end
/-! ### what a suite reads of its exception -/
/-- the exceptions of the class at C have attributes by their own dict -/
structure ErrG (K : PySem.W.Frag) (C : Addr) (f : Str) : Prop where
  ga : PySem.W.findIn K (.ref C) "__getattribute__" = some (some (.builtin "BaseException.__getattribute__"))
  gg : PySem.W.findIn K (.ref C) "__getattr__" = some none
  noN : PySem.W.findIn K (.ref C) f = some none
  exC : PySem.W.subIn K (.ref C) (.type "BaseException") = some true
  hdC : PySem.W.hasDictIn K C = true
theorem ErrTxt.g {P : Program} {K : PySem.W.Frag} {mg : Str → Option Value} (T : ErrTxt P K mg C fI f) : ErrG K C f := ⟨T.ga, T.gg, T.noN, T.exC, T.hdC⟩
/-- e.f, e the exception at a -/
def aExF (K : PySem.W.Frag) (a C : Addr) (fs : List (Str × D)) (f : Str) (te : AE) : AE := fun σ M Q E => te σ M (fun x M1 => x = .ref a ∧ ErrG K C f ∧ ∃ d, fs.lookup f = some d ∧ Q d M1) E
theorem qe_exf {a : Addr} {oe : Obj} {C dd : Addr} {pn : List (Addr × Obj)} {fs : List (Str × D)} {vs : List (Str × V)} {e : PySem.Expr} {pos : Pos} (hz : Zc (.ref C) (some dd) oe) (hf : ∃ vs, oe.data = .fields vs) (hB : B dd = some (.xd vs)) (hfr : FR X.K B fs vs) (he : QE (X.suite a ((a, oe) :: pn)) B W e te)
    (hb : attributeBase e f X.env (PySem.eval e X.env) = PySem.eval e X.env := by rfl) :
    QE (X.suite a ((a, oe) :: pn)) B W (.Attribute e f pos) (aExF X.K a C fs f te) := by
  refine ⟨fun pins s σ' H R I ⟨G, σ, M, Q, E, ss, h, kq, kx⟩ => ?_⟩
  refine attr_of hb (thn (he.run pins s σ' H (Kv X.K G _) I ⟨G, σ, M, _, E, ss, h, fun v H' kv => kv, kx⟩) fun u s1 ⟨x, H1, I1, rx, d0, M1, G1, e1, m1, r1, ex, T, d, l, q⟩ => ?_)
  subst ex
  cases r1
  obtain rfl : u = Value.ref a := rx
  obtain ⟨ha, _⟩ := I1.pin (a, oe) (List.mem_append_left _ List.mem_cons_self)
  obtain ⟨ws, hd⟩ := hf
  have sB := ss.base.trans e1
  have hx : ObjOk X.prog X.w H1 s1.heap dd (.xd vs) := I1.hok dd _ (m1.same _ _ (sB _ _ hB))
  obtain ⟨mA, hns, hr⟩ := hx
  obtain ⟨od, ho, hl⟩ := lookIn_ns hns
  obtain ⟨v, lv, rv⟩ := hfr.look l
  obtain ⟨u, hu, ru⟩ := RelO.some_of (v := v) (o := mA f) (by rw [← lv]; exact hr f)
  have J : PySem.W.InstAt s1.heap a oe C (some od) := ⟨ha, hz.1, by unfold PySem.W.notCls; rw [hd] <;> rfl, by rw [hz.2]; exact ho⟩
  exact HandSPX.exc_get I1.kIn J T.ga T.gg T.exC (PySem.W.findObj_own T.hdC T.noN rfl (by rw [hl, hu])) (handed_of ru) ⟨v, H1, I1.tok _, ru, kq v H1 ((Kv.here m1 (rv.up sB) q).lift e1)⟩
/-- isinstance(e, T), e the exception at a -/
structure ErrK (K : PySem.W.Frag) (C : Addr) : Prop where
  cl : (PySem.W.clsIn K C).isSome = true
  ga : PySem.W.findIn K (.ref C) "__getattribute__" = some (some (.builtin "BaseException.__getattribute__"))
  gg : PySem.W.findIn K (.ref C) "__getattr__" = some none
  exC : PySem.W.subIn K (.ref C) (.type "BaseException") = some true
  cc : PySem.W.findIn K (.ref C) "__class__" = some (some (.builtin "object.__class__"))
  gs : PySem.W.specialIn K (.builtin "object.__class__") "__get__" = some (some (.builtin "getset_descriptor.__get__"))
  tk : PySem.W.takesIn K (.builtin "object.__class__") = some true
  ob : PySem.W.mroIn K C (.type "object") = some true
def aIsE (K : PySem.W.Frag) (a C : Addr) (tas : AA) : AE := fun σ M Q E => tas σ M (fun xs M1 => ErrK K C ∧ ∃ c b, xs = [.ref a, .ref c] ∧ PySem.W.kitOne K (.ref C) (.ref c) = some b ∧ Q (.bl b) M1) E
theorem qe_ise {a : Addr} {oe : Obj} {C dd : Addr} {pn : List (Addr × Obj)} {vs : List (Str × V)} {e : PySem.Expr} {es : List PySem.Expr} {p pos : Pos} (hz : Zc (.ref C) (some dd) oe) (hf : ∃ vs, oe.data = .fields vs) (hB : B dd = some (.xd vs))
    (hg : Gl (X.suite a ((a, oe) :: pn)) "isinstance") (hm : X.mg "isinstance" = none) (ha : QA (X.suite a ((a, oe) :: pn)) B W (e :: es) tas)
    (he : starEach (e :: es) X.env = (false, PySem.eval e X.env) :: starEach es X.env := by rfl) (hpl : (backTo pos (starEach es X.env)).any (·.1) = false := by rfl) :
    QE (X.suite a ((a, oe) :: pn)) B W (.Call (.Name "isinstance" p) (e :: es) [] pos) (aIsE X.K a C tas) := by
  have call : CallR (X.suite a ((a, oe) :: pn)) (.builtin "isinstance") (fun xs H Q => ErrK X.K C ∧ ∃ c b, xs = [.ref a, .ref c] ∧ PySem.W.kitOne X.K (.ref C) (.ref c) = some b ∧ H dd = some (.xd vs) ∧ Q (.bl b) H) := by
    intro pins s σ H xs us Q I r ⟨T, c, b, ex, e, hd, q⟩
    subst ex
    obtain ⟨u1, u2, rfl, r1, r2⟩ := vals2 r
    obtain rfl : u1 = Value.ref a := r1
    obtain rfl : u2 = Value.ref c := r2
    obtain ⟨hA, _⟩ := I.pin (a, oe) (List.mem_append_left _ List.mem_cons_self)
    obtain ⟨ws, hdt⟩ := hf
    have hx : ObjOk X.prog X.w H s.heap dd (.xd vs) := I.hok dd _ hd
    obtain ⟨mA, hns, hr⟩ := hx
    obtain ⟨od, ho, hl⟩ := lookIn_ns hns
    have J : PySem.W.InstAt s.heap a oe C (some od) := ⟨hA, hz.1, by unfold PySem.W.notCls; rw [hdt] <;> rfl, by rw [hz.2]; exact ho⟩
    exact PySem.W.kia_one (PySem.W.kitx_exc T.cl T.ga T.gg T.exC T.cc T.gs T.tk T.ob) I.kIn J e (fun z => nomatch z) fun tk => ⟨.bl b, H, I.tok tk, rfl, q⟩
  refine pe_imp (pe_callB call hg hm (by decide +kernel) ha (by decide) (by decide) he hpl) fun s H R ⟨G, σ, M, Q, E, ss, h, k, kx⟩ => ⟨G, σ, M, _, E, ss, h, fun ws H1 ds M1 G1 e1 m1 r1 ⟨T, c, b, ex, e, q⟩ => ?_, kx⟩
  subst ex
  obtain ⟨v, w', rfl, ra, rb⟩ := rpa2 r1
  cases ra; cases rb
  exact ⟨T, c, b, rfl, e, m1.same _ _ ((ss.base.trans e1) _ _ hB), k _ _ ((Kv.here m1 (.bl b) q).lift e1)⟩
end
end HA
/-! A25: where the classes stand; facts of error classes. -/
namespace HA
open PySem PySem.Spec L2
/-- the written part, and where the classes stand -/
structure Wd where
  K : PySem.W.Frag
  C : Nat → Addr
  T : Nat → Addr × Str
def mkC : List (Nat × Addr) → Nat → Addr
  | [], _ => 0
  | (n, a) :: r, i => if i = n then a else mkC r i
def mkT : List (Addr × Str) → Nat → Addr × Str
  | [], _ => (0, "")
  | [p], _ => p
  | p :: r, i => if i = 0 then p else mkT r (i - 1)
/-- the tables of code objects are there -/
def TabM (z : Wd) (M : Mem) : Prop := ∀ i, M (z.T i).1 = some (.tab (z.T i).2)
theorem TabM.up {z : Wd} {M M' : Mem} (h : TabM z M) (k : MLe M M') : TabM z M' := fun i => k _ _ (h i)
theorem mkT_mem {p : Addr × Str} : ∀ {l : List (Addr × Str)} {i : Nat}, mkT (p :: l) i ∈ p :: l
  | [], _ => .head _
  | q :: r, 0 => .head _
  | q :: r, i + 1 => .tail _ (mkT_mem (p := q) (l := r) (i := i))
/-- the class numbered c; its instances' attributes -/
structure ClsOk (z : Wd) (c : Nat) (as : List Str) : Prop where
  cls : Cls z.K (z.C c)
  na : ∀ a ∈ as, NoAttr z.K (z.C c) a
/-- what a handler names, what isinstance says -/
structure Exm (z : Wd) (c d : Nat) (b : Bool) : Prop where
  exm : PySem.W.exmOne z.K (.ref (z.C c)) (.ref (z.C d)) = some b
  kit : PySem.W.kitOne z.K (.ref (z.C c)) (.ref (z.C d)) = some b
theorem exm_b {K : PySem.W.Frag} {C D : Addr} {b : Bool} (h1 : PySem.W.subIn K (.ref D) (.type "BaseException") = some true) (h2 : PySem.W.isClsIn K D = true) (h3 : PySem.W.typeIn K (.ref D) = some (.type "type")) (h4 : PySem.W.subIn K (.ref C) (.ref D) = some b) (h5 : PySem.W.subIn K (.ref D) (.ref D) = some true) :
    PySem.W.exmOne K (.ref C) (.ref D) = some b ∧ PySem.W.kitOne K (.ref C) (.ref D) = some b := (by exact HA.Wq.get : @HA.Wq (PySem.W.exmOne K (.ref C) (.ref D) = some b ∧ PySem.W.kitOne K (.ref C) (.ref D) = some b) (by
  have e1 : (PySem.W.subIn K (.ref D) (.type "BaseException") == some true) = true := by rw [h1] <;> rfl
  have e2 : ((PySem.W.clsIn K D).isSome && PySem.W.typeIn K (.ref D) == some (.type "type")) = true := by
    have h2' : (PySem.W.clsIn K D).isSome = true := h2
    rw [h2', h3] <;> rfl
  have e3 : PySem.W.kitCls K (.ref C) (.ref D) = some b := by
    show (if ((PySem.W.clsIn K D).isSome && PySem.W.typeIn K (.ref D) == some (.type "type")) = true then PySem.W.subIn K (.ref C) (.ref D) else none) = some b
    rw [if_pos e2]; exact h4
  refine ⟨?_, ?_⟩
  · show (if (PySem.W.subIn K (.ref D) (.type "BaseException") == some true) = true then PySem.W.kitCls K (.ref C) (.ref D) else none) = some b
    rw [if_pos e1]; exact e3
  · show (if (Value.ref C == Value.ref D) = true then some true else PySem.W.kitCls K (.ref C) (.ref D)) = some b
    by_cases h : (Value.ref C == Value.ref D) = true
    · rw [if_pos h]
      have e : C = D := Value.ref.inj (beq_iff_eq.mp h)
      subst e
      exact h5.symm.trans h4
    · rw [if_neg h]; exact e3))
/-- what is read of an error of the class c -/
structure ErrR (z : Wd) (c : Nat) (f : Str) : Prop where
  g : ErrG z.K (z.C c) f
  k : ErrK z.K (z.C c)
section
variable {nx : AS → Mem → Prop} {rt : DK} {bk ct : AS → Mem → Prop} {xx : AXs} {σ : AS} {M : Mem} {te : AE} {C : Addr} {f : Str}
theorem i_raise (h : te σ M (fun d M1 => xx σ C [(f, d)] M1) xx) : aRaise C f te ⟨nx, rt, bk, ct, xx⟩ σ M := h
theorem i_xx {M' : Mem} {P : Mem → Prop} (m : MLe M M') (h : P M) : ∃ M2, MLe M2 M' ∧ P M2 := ⟨M, m, h⟩
theorem i_fznx {M' : Mem} {P : Prop} (m : MLe M M') (h : P) : MLe M M' ∧ P := ⟨m, h⟩
end
end HA
/-! A26: loops and comprehensions by what was consumed, over known lists. -/
namespace HA
open PySem PySem.Spec L2
section
variable {nx : AS → Mem → Prop} {rt : DK} {bk ct : AS → Mem → Prop} {xx : AXs} {σ0 : AS} {M0 : Mem} {st : Mem → Prop} {g : AG} {tb : ASt}
/-- what a loop asks -/
def ForQ (xs : List D) (st : Mem → Prop) (g : AG) (tb : ASt) (nx : AS → Mem → Prop) (rt : DK) (xx : AXs) (σ0 : AS) (M0 : Mem) : Prop := ∃ V : Nat → AS → Mem → Prop, V 0 σ0 M0 ∧
  (∀ i x σ M, xs[i]? = some x → V i σ M → st M ∧ g x σ M (fun σ2 M2 => tb ⟨V (i + 1), rt, nx, V (i + 1), xx⟩ σ2 M2) xx) ∧ ∀ σ M, V xs.length σ M → st M ∧ nx σ M
theorem i_forQ {ti : AI} {σ : AS} {M : Mem} (h : ti σ M (fun xs st M1 => ForQ xs st g tb nx rt xx σ M1) xx) : aFor ti g tb ⟨nx, rt, bk, ct, xx⟩ σ M := h
theorem for_inv {xs : List D} (S : List D → AS → Mem → Prop) (h0 : S [] σ0 M0)
    (turn : ∀ pre x rest, xs = pre ++ x :: rest → ∀ σ M, S pre σ M → st M ∧ g x σ M (fun σ2 M2 => tb ⟨S (pre ++ [x]), rt, nx, S (pre ++ [x]), xx⟩ σ2 M2) xx) (fin : ∀ σ M, S xs σ M → st M ∧ nx σ M) : ForQ xs st g tb nx rt xx σ0 M0 :=
  for_fold (D' := { nx := nx, rt := rt, xx := xx }) S h0 turn fin
theorem for_list {α : Type} {l : List α} {enc : α → D} {xs : List D} (S : List α → AS → Mem → Prop) (hx : xs = l.map enc) (h0 : S [] σ0 M0)
    (turn : ∀ pre a rest, l = pre ++ a :: rest → ∀ σ M, S pre σ M → st M ∧ g (enc a) σ M (fun σ2 M2 => tb ⟨S (pre ++ [a]), rt, nx, S (pre ++ [a]), xx⟩ σ2 M2) xx) (fin : ∀ σ M, S l σ M → st M ∧ nx σ M) : ForQ xs st g tb nx rt xx σ0 M0 := (by exact HA.Wq.get : @HA.Wq (ForQ xs st g tb nx rt xx σ0 M0) (by
  subst hx
  refine ⟨fun i => S (l.take i), by simpa using h0, fun i x σ M hx v => ?_, fun σ M v => fin σ M (by rw [List.length_map, List.take_length] at v; exact v)⟩
  rw [List.getElem?_map] at hx
  cases ha : l[i]? with
  | none => rw [ha] at hx; cases hx
  | some a =>
    rw [ha] at hx
    cases hx
    obtain ⟨e1, e2⟩ := split_at ha
    have := turn (l.take i) a (l.drop (i + 1)) e1 σ M v
    simp only [e2]
    exact this))
theorem for_range {lo : Int} {m n : Nat} (S : Nat → AS → Mem → Prop) (hm : m = n) (h0 : S 0 σ0 M0)
    (turn : ∀ i, i < n → ∀ σ M, S i σ M → st M ∧ g (.int (lo + i)) σ M (fun σ2 M2 => tb ⟨S (i + 1), rt, nx, S (i + 1), xx⟩ σ2 M2) xx) (fin : ∀ σ M, S n σ M → st M ∧ nx σ M) : ForQ (rangeD lo m) st g tb nx rt xx σ0 M0 := (by exact HA.Wq.get : @HA.Wq (ForQ (rangeD lo m) st g tb nx rt xx σ0 M0) (by
  subst hm
  refine ⟨S, h0, fun i x σ M hx v => ?_, fun σ M v => fin σ M (by rw [rangeD_len] at v; exact v)⟩
  obtain ⟨hi, rfl⟩ := rangeD_some hx
  exact turn i hi σ M v))
theorem for_step {lo c : Int} {n : Nat} (S : Nat → AS → Mem → Prop) (h0 : S 0 σ0 M0)
    (turn : ∀ i, i < n → ∀ σ M, S i σ M → st M ∧ g (.int (lo + i * c)) σ M (fun σ2 M2 => tb ⟨S (i + 1), rt, nx, S (i + 1), xx⟩ σ2 M2) xx) (fin : ∀ σ M, S n σ M → st M ∧ nx σ M) : ForQ (stepD lo c n) st g tb nx rt xx σ0 M0 := by
  refine ⟨S, h0, fun i x σ M hx v => ?_, fun σ M v => fin σ M (by rw [stepD_len] at v; exact v)⟩
  obtain ⟨hi, rfl⟩ := stepD_some hx
  exact turn i hi σ M v
/-! while -/
theorem i_while {tt : AT} {σ : AS} {M : Mem} (h : ∃ V : Nat → AS → Mem → Prop, (∃ m, V m σ M) ∧ ∀ m σ M, V m σ M →
  tt σ M (fun b M1 => (b = true → tb ⟨fun σ' M' => ∃ m', m' < m ∧ V m' σ' M', rt, nx, fun σ' M' => ∃ m', m' < m ∧ V m' σ' M', xx⟩ σ M1) ∧ (b = false → nx σ M1)) xx) : aWhile tt tb ⟨nx, rt, bk, ct, xx⟩ σ M := h
end
section
variable {σ : AS} {M1 : Mem} {st : Mem → Prop} {g : AG} {tt : AT} {te : AE} {vs : List Nat} {Q : List D → Prop}
/-- what a frozen comprehension asks -/
def LcQ (xs : List D) (st : Mem → Prop) (g : AG) (tt : AT) (te : AE) (vs : List Nat) (σ : AS) (M1 : Mem) (Q : List D → Prop) : Prop := (∀ M', MLe M1 M' → st M') ∧ xs.length ≤ sizeLine ∧ ∃ R : Nat → List D → Prop, R 0 [] ∧
      (∀ i x acc M', xs[i]? = some x → acc.length ≤ i → R i acc → MLe M1 M' → g x (wipeA σ vs) M' (fun σ2 M2 => tt σ2 M2 (fun b M3 => (b = true → te σ2 M3 (fun y M4 => M4 = M' ∧ R (i + 1) (acc ++ [y])) EF) ∧ (b = false → M3 = M' ∧ R (i + 1) acc)) EF) EF) ∧ ∀ acc, R xs.length acc → Q acc
theorem i_lcQ {ti : AI} {M : Mem} {Q : DK} {E : AXs} (h : ti σ M (fun xs st M1 => LcQ xs st g tt te vs σ M1 fun acc => Q (.lst acc) M1) E) : aLcF ti g tt te vs σ M Q E := h
theorem lc_rel {α : Type} {l : List α} {enc : α → D} {xs : List D} (S : α → D → Prop) (hx : xs = l.map enc) (hst : ∀ M', MLe M1 M' → st M') (hl : l.length ≤ sizeLine)
    (body : ∀ a ∈ l, ∀ M' (P : DK) (N : Mem → Prop), MLe M1 M' → (∀ y, S a y → P y M') → g (enc a) (wipeA σ vs) M' (fun σ2 M2 => tt σ2 M2 (fun b M3 => (b = true → te σ2 M3 P EF) ∧ (b = false → N M3)) EF) EF)
    (fin : ∀ ys : List D, ys.length = l.length → (∀ (i : Nat) (a : α) (y : D), l[i]? = some a → ys[i]? = some y → S a y) → Q ys) : LcQ xs st g tt te vs σ M1 Q := lcF_rel S hx hst hl body fin
theorem lc_map {α : Type} {l : List α} {enc f : α → D} {xs : List D} (hx : xs = l.map enc) (hst : ∀ M', MLe M1 M' → st M') (hl : l.length ≤ sizeLine)
    (body : ∀ a ∈ l, ∀ M' (P : DK) (N : Mem → Prop), MLe M1 M' → P (f a) M' → g (enc a) (wipeA σ vs) M' (fun σ2 M2 => tt σ2 M2 (fun b M3 => (b = true → te σ2 M3 P EF) ∧ (b = false → N M3)) EF) EF)
    (fin : Q (l.map f)) : LcQ xs st g tt te vs σ M1 Q := lcF_map hx hst hl body fin
theorem lc_filter {α : Type} {l : List α} {enc f : α → D} {p : α → Bool} {xs : List D} (hx : xs = l.map enc) (hst : ∀ M', MLe M1 M' → st M') (hl : l.length ≤ sizeLine)
    (body : ∀ a ∈ l, ∀ M' (P : DK) (N : Mem → Prop), MLe M1 M' → (p a = true → P (f a) M') → (p a = false → N M') → g (enc a) (wipeA σ vs) M' (fun σ2 M2 => tt σ2 M2 (fun b M3 => (b = true → te σ2 M3 P EF) ∧ (b = false → N M3)) EF) EF)
    (fin : Q ((l.filter p).map f)) : LcQ xs st g tt te vs σ M1 Q := lcF_filter hx hst hl body fin
/-- each number of a range gives one thing -/
theorem lc_range {lo : Int} {m n : Nat} {f : Nat → D} (hm : m = n) (hst : ∀ M', MLe M1 M' → st M') (hl : n ≤ sizeLine)
    (body : ∀ i, i < n → ∀ M' (P : DK) (N : Mem → Prop), MLe M1 M' → P (f i) M' → g (.int (lo + i)) (wipeA σ vs) M' (fun σ2 M2 => tt σ2 M2 (fun b M3 => (b = true → te σ2 M3 P EF) ∧ (b = false → N M3)) EF) EF)
    (fin : Q ((List.range n).map f)) : LcQ (rangeD lo m) st g tt te vs σ M1 Q := by
  subst hm
  exact lc_map (l := List.range m) (enc := fun j => .int (lo + (j : Nat))) rfl hst (by simpa using hl) (fun i hi => body i (List.mem_range.mp hi)) fin
theorem lc_rrel {lo : Int} {m n : Nat} (S : Nat → D → Prop) (hm : m = n) (hst : ∀ M', MLe M1 M' → st M') (hl : n ≤ sizeLine)
    (body : ∀ i, i < n → ∀ M' (P : DK) (N : Mem → Prop), MLe M1 M' → (∀ y, S i y → P y M') → g (.int (lo + i)) (wipeA σ vs) M' (fun σ2 M2 => tt σ2 M2 (fun b M3 => (b = true → te σ2 M3 P EF) ∧ (b = false → N M3)) EF) EF)
    (fin : ∀ ys : List D, ys.length = n → (∀ (i : Nat) (y : D), ys[i]? = some y → S i y) → Q ys) : LcQ (rangeD lo m) st g tt te vs σ M1 Q := (by exact HA.Wq.get : @HA.Wq (LcQ (rangeD lo m) st g tt te vs σ M1 Q) (by
  subst hm
  refine lc_rel (l := List.range m) (enc := fun j => .int (lo + (j : Nat))) S rfl hst (by simpa using hl) (fun i hi => body i (List.mem_range.mp hi)) fun ys h1 h2 => fin ys (by simpa using h1) fun i y hy => ?_
  have hi : i < m := by
    have := (List.getElem?_eq_some_iff.mp hy).1
    simp at h1; omega
  exact h2 i i y (by simp [hi]) hy))
theorem lc_step {lo c : Int} {n : Nat} {f : Nat → D} (hst : ∀ M', MLe M1 M' → st M') (hl : n ≤ sizeLine)
    (body : ∀ i, i < n → ∀ M' (P : DK) (N : Mem → Prop), MLe M1 M' → P (f i) M' → g (.int (lo + i * c)) (wipeA σ vs) M' (fun σ2 M2 => tt σ2 M2 (fun b M3 => (b = true → te σ2 M3 P EF) ∧ (b = false → N M3)) EF) EF)
    (fin : Q ((List.range n).map f)) : LcQ (stepD lo c n) st g tt te vs σ M1 Q :=
  lc_map (l := List.range n) (enc := fun j => .int (lo + (j : Nat) * c)) rfl hst (by simpa using hl) (fun i hi => body i (List.mem_range.mp hi)) fin
end
/-- things that are all ints -/
theorem all_ints {ys : List D} (h : ∀ (i : Nat) (y : D), ys[i]? = some y → ∃ m : Int, y = .int m) : ∃ ns : List Int, ys = ns.map .int := (by exact HA.Wq.get : @HA.Wq (∃ ns : List Int, ys = ns.map .int) (by
  induction ys with
  | nil => exact ⟨[], rfl⟩
  | cons y r ih =>
    obtain ⟨m, rfl⟩ := h 0 y rfl
    obtain ⟨ns, rfl⟩ := ih fun i z hz => h (i + 1) z (by simpa using hz)
    exact ⟨m :: ns, rfl⟩))
/-- .. and octets -/
theorem all_oct {ys : List D} (h : ∀ (i : Nat) (y : D), ys[i]? = some y → ∃ m : Int, y = .int m ∧ 0 ≤ m ∧ m < 256) : ∃ ns : List Int, ys = ns.map .int ∧ Oct ns := (by exact HA.Wq.get : @HA.Wq (∃ ns : List Int, ys = ns.map .int ∧ Oct ns) (by
  induction ys with
  | nil => exact ⟨[], rfl, fun _ h => nomatch h⟩
  | cons y r ih =>
    obtain ⟨m, rfl, h0, h1⟩ := h 0 y rfl
    obtain ⟨ns, rfl, ho⟩ := ih fun i z hz => h (i + 1) z (by simpa using hz)
    exact ⟨m :: ns, rfl, fun x hx => by
      rcases List.mem_cons.mp hx with rfl | hx
      · exact ⟨h0, h1⟩
      · exact ho x hx⟩))
theorem toNat_cast {k : Nat} : ((k : Int)).toNat = k := Int.toNat_natCast k
end HA
/-! A27: steps for objects, methods; extend by a tuple; zip. -/
namespace HA
open PySem PySem.Spec PyProof.Rows L2
open PySem.AutoSeq1 (wpAny_loadPart')
theorem pick_nil {α : Type} {zs : List α} : pick [] zs = [] := rfl
theorem pick_cons {α : Type} {i : Nat} {pm : List Nat} {zs : List α} : pick (i :: pm) zs = (zs[i]?).toList ++ pick pm zs := by
  unfold pick
  rw [List.filterMap_cons]
  cases zs[i]? <;> rfl
section
variable {nx : AS → Mem → Prop} {rt : DK} {bk ct : AS → Mem → Prop} {xx : AXs} {σ : AS} {M : Mem} {Q : DK} {E : AXs} {to ta tv : AE} {tas tk : AA} {C a : Addr} {m f : Str} {sp : ASp} {n j : Nat} {pm : List Nat} {fs : List (Str × D)} {d : D} {r : A2}
theorem i_make (h : tas σ M (fun us M1 => tk σ M1 (fun ws M2 => us.length = n ∧ ws.length = j ∧ ∀ a, M2 a = none → sp (pick pm (.ref a :: us ++ ws)) (mset M2 a (.ins C [])) (fun v M3 => v = .non ∧ Q (.ref a) M3) (E σ)) E) E) : aMake C sp n j pm tas tk σ M Q E := h
theorem i_mk {us ws : List D} {n j : Nat} {R : Addr → Prop} (h1 : us.length = n) (h2 : ws.length = j) (h : ∀ a, M a = none → R a) : us.length = n ∧ ws.length = j ∧ ∀ a, M a = none → R a := ⟨h1, h2, h⟩
theorem i_non {R : Prop} (h : R) : D.non = D.non ∧ R := ⟨rfl, h⟩
theorem i_pk {ds ds' : List D} {X : AX} (e : pick pm ds = ds') (h : sp ds' M Q X) : sp (pick pm ds) M Q X := by rw [e]; exact h
def methK (C : Addr) (m : Str) (sp : ASp) (n : Nat) (pm : List Nat) (ta : AA) (σ : AS) (Q : DK) (E : AXs) : DK := fun x M1 => match x with
  | .ref a => ∃ fs, M1 a = some (.ins C fs) ∧ fs.lookup m = none ∧ ta σ M1 (fun us M2 => us.length = n ∧ sp (pick pm (.ref a :: us)) M2 Q (E σ)) E
  | _ => False
theorem i_meth (h : to σ M (methK C m sp n pm tas σ Q E) E) : aMeth C m sp n pm to tas σ M Q E := h
theorem i_mtK (hm : M a = some (.ins C fs)) (l : fs.lookup m = none) (h : tas σ M (fun us M2 => us.length = n ∧ sp (pick pm (.ref a :: us)) M2 Q (E σ)) E) : methK C m sp n pm tas σ Q E (.ref a) M := ⟨fs, hm, l, h⟩
theorem i_ml {us ds : List D} {X : AX} (h1 : us.length = n) (e : pick pm (.ref a :: us) = ds) (h : sp ds M Q X) : us.length = n ∧ sp (pick pm (.ref a :: us)) M Q X := ⟨h1, by rw [e]; exact h⟩
def methKK (C : Addr) (m : Str) (sp : ASp) (j : Nat) (pm : List Nat) (tk : AA) (σ : AS) (Q : DK) (E : AXs) : DK := fun x M1 => match x with
  | .ref a => ∃ fs, M1 a = some (.ins C fs) ∧ fs.lookup m = none ∧ tk σ M1 (fun ws M2 => ws.length = j ∧ sp (pick pm ([.ref a] ++ ws)) M2 Q (E σ)) E
  | _ => False
theorem i_methK (h : to σ M (methKK C m sp j pm tk σ Q E) E) : aMethK C m sp j pm to tk σ M Q E := h
theorem i_mtKK (hm : M a = some (.ins C fs)) (l : fs.lookup m = none) (h : tk σ M (fun ws M2 => ws.length = j ∧ sp (pick pm ([.ref a] ++ ws)) M2 Q (E σ)) E) : methKK C m sp j pm tk σ Q E (.ref a) M := ⟨fs, hm, l, h⟩
theorem i_mlK {ws ds : List D} {X : AX} (h1 : ws.length = j) (e : pick pm ([.ref a] ++ ws) = ds) (h : sp ds M Q X) : ws.length = j ∧ sp (pick pm ([.ref a] ++ ws)) M Q X := ⟨h1, by rw [e]; exact h⟩
def augE (C a : Addr) (f : Str) (σ : AS) (nx : AS → Mem → Prop) : DK := fun z M4 => ∃ fs', M4 a = some (.ins C fs') ∧ fs'.length < 1000 ∧ nx σ (mset M4 a (.ins C (putD f z fs')))
def augK (K : PySem.W.Frag) (tv : AE) (r : A2) (f : Str) (σ : AS) (nx : AS → Mem → Prop) (xx : AXs) : DK := fun x M1 => match x with
  | .ref a => ∃ C fs old, M1 a = some (.ins C fs) ∧ Cls K C ∧ NoAttr K C f ∧ fs.lookup f = some old ∧ tv σ M1 (fun y M3 => r old y M3 (augE C a f σ nx)) xx
  | _ => False
theorem i_fldAug {K : PySem.W.Frag} (h : to σ M (augK K tv r f σ nx xx) xx) : aFldAug K to tv r f ⟨nx, rt, bk, ct, xx⟩ σ M := h
theorem i_augK {K : PySem.W.Frag} (hm : M a = some (.ins C fs)) (cl : Cls K C) (na : NoAttr K C f) (l : fs.lookup f = some d) (h : tv σ M (fun y M3 => r d y M3 (augE C a f σ nx)) xx) : augK K tv r f σ nx xx (.ref a) M := ⟨C, fs, d, hm, cl, na, l, h⟩
theorem i_augE {fs' : List (Str × D)} {d : D} (hm : M a = some (.ins C fs)) (hz : fs.length < 1000) (e : putD f d fs = fs') (h : nx σ (mset M a (.ins C fs'))) : augE C a f σ nx d M := ⟨fs, hm, hz, by subst e; exact h⟩
end
theorem ne_sn {M : Mem} {a b : Addr} {c : Cell} (h : M a = some c) (h' : M b = none) : a ≠ b := fun e => by rw [e, h'] at h; cases h
theorem mset_old {M : Mem} {a b : Addr} {c d : Cell} (h' : M b = none) (h : M a = some d) : mset M b c a = some d := by rw [mset_ne (ne_sn h h'), h]
theorem mset_non {M : Mem} {a b : Addr} {c : Cell} (h : mset M b c a = none) : a ≠ b ∧ M a = none := by
  by_cases e : a = b
  · subst e; rw [mset_same] at h; cases h
  · rw [mset_ne e] at h; exact ⟨e, h⟩
theorem Deal.ins {M : Mem} {x : D} {b C : Addr} {fs : List (Str × D)} {c : Cell} (h : Deal M x) (hb : M b = some (.ins C fs)) : Deal (mset M b c) x := by
  match x, h with
  | .ref a, ⟨l, h0, h1, h2⟩ => exact ⟨l, h0, by rw [mset_ne (fun e => by subst e; rw [h1] at hb; cases hb)]; exact h1, by rw [mset_ne (fun e => by subst e; rw [h2] at hb; cases hb)]; exact h2⟩
theorem Deal.lst {M : Mem} {x : D} {b : Addr} {xs : List D} {c : Cell} (h : Deal M x) (hb : M b = some (.lst xs)) : Deal (mset M b c) x := by
  match x, h with
  | .ref a, ⟨l, h0, h1, h2⟩ => exact ⟨l, h0, by rw [mset_ne (fun e => by subst e; rw [h1] at hb; cases hb)]; exact h1, by rw [mset_ne (fun e => by subst e; rw [h2] at hb; cases hb)]; exact h2⟩
theorem Deal.new {M : Mem} {x : D} {b : Addr} {c : Cell} (h : Deal M x) (hb : M b = none) : Deal (mset M b c) x := h.up (MLe.new hb)
theorem MLe.newM {M N : Mem} {a : Addr} {c : Cell} (h : M a = none) (k : MLe M N) : MLe M (mset N a c) := fun b d e => by
  rw [mset_ne (fun z => by subst z; rw [h] at e; cases e)]; exact k _ _ e
theorem c_oflI {x : D} {ns : List Int} {M : Mem} {Q : DK} {X : AX} (hd : Deal M x) (h0 : ns ≠ []) (hl : ns.length < 1000000) (h : ∀ k ∈ ns, Q (.int k) M) : spOf [x, lI ns] M Q X := c_ofl hd (by simpa using h0) (by simpa using hl) fun d hd => by
  obtain ⟨k, hk, rfl⟩ := List.mem_map.mp hd
  exact h k hk
theorem c_oftI {x : D} {ns : List Int} {M : Mem} {Q : DK} {X : AX} (hd : Deal M x) (h0 : ns ≠ []) (hl : ns.length < 1000000) (h : ∀ k ∈ ns, Q (.int k) M) : spOf [x, tI ns] M Q X := c_oft hd (by simpa using h0) (by simpa using hl) fun d hd => by
  obtain ⟨k, hk, rfl⟩ := List.mem_map.mp hd
  exact h k hk
theorem i_tt {R : Prop} (h : R) : True ∧ R := ⟨trivial, h⟩
theorem br_true {A B : Prop} (h : A) : (true = true → A) ∧ (true = false → B) := ⟨fun _ => h, nofun⟩
theorem br_false {A B : Prop} (h : B) : (false = true → A) ∧ (false = false → B) := ⟨nofun, fun _ => h⟩
theorem ixN_nat {n i : Nat} (h : i < n) : ixN n (i : Int) = some i := by
  unfold ixN
  rw [if_pos (by omega), if_pos (by omega)]
  simp
theorem i_lsc {xs : List D} {M : Mem} {Q : DK} (h : ∀ p, M p = none → Q (.ref p) (mset M p (.lst xs))) : cList [.tup xs] M Q := h
theorem i_lscI {xs : List Int} {M : Mem} {Q : DK} (h : ∀ p, M p = none → Q (.ref p) (mset M p (.lst (xs.map .int)))) : cList [tI xs] M Q := h
theorem i_lscl {xs : List D} {M : Mem} {Q : DK} (h : ∀ p, M p = none → Q (.ref p) (mset M p (.lst xs))) : cList [.lst xs] M Q := ⟨xs, rfl, h⟩
theorem i_lsclI {xs : List Int} {M : Mem} {Q : DK} (h : ∀ p, M p = none → Q (.ref p) (mset M p (.lst (xs.map .int)))) : cList [lI xs] M Q := ⟨xs.map .int, rfl, h⟩
/-! ### xs.extend(tuple) -/
def rExtendT (K : PySem.W.Frag) : V → List V → Hp → VK → Prop := fun x vs H Q => ∃ l b xs zs, x = .ref l ∧ vs = [.ref b] ∧ H l = some (.lst xs) ∧ SqT K H b zs ∧ xs.length + zs.length ≤ sizeLine ∧ Q .non (upd H l (.lst (xs ++ zs)))
theorem list_extend_tup (l : Addr) (items : Array Value) (n : Nat) (b : Addr) (items2 : Array Value) (n2 : Nat) (dd : Option Addr) (sl : Array (Option Value)) (hs0 : ¬(!items.isEmpty && Builtin.List.listTooLong (items.size + items2.size)) = true) (hs1 : items.size ≤ sizeLine) (hs2 : items.size + items2.size ≤ sizeLine + 1) :
    Meets (Builtin.«list.extend» ⟨[.ref l, .ref b], []⟩) (fun _ R s => s.heap.get? l = some { cls := .type "list", dict := none, data := .seq items n, slots := #[] } ∧ s.heap.get? b = some { cls := .type "tuple", dict := dd, data := .seq items2 n2, slots := sl } ∧ R (.ok (.ret Value.none)) { s with heap := s.heap.update l (Obj.mapSeq fun x => x ++ items2), toks := s.toks }) :=
  .of_wp fun prog w A R s h => by
    obtain ⟨heap, gs, dr, tk, os⟩ := s
    obtain ⟨at1, at2, h⟩ := h
    have g1 := AutoSeq1.idx_int; have g2 := AutoSeq1.sub_tuple_tuple; have g3 := AutoSeq1.sub_list_list; have g4 := AutoSeq1.sub_tuple_list; have g5 := AutoSeq1.sub_list_tuple
    have both : (items ++ items2).size ≤ sizeLine + 1 := by rw [Array.size_append]; exact hs2
    wp_walk using (wpAny_updateSeq at1 rfl (hz := hs1) (_hz' := both)), wpAny_loadPart' at1, wpAny_loadPart' at2
    exact ⟨_, rfl, h⟩
theorem mt_extendT {X : Cx} : MtR X "list.extend" (rExtendT X.K) := (by exact HA.Wq.get : @HA.Wq (MtR X "list.extend" (rExtendT X.K)) (by
  intro pins s σ H x vs v us Q I rx rv h
  obtain ⟨l, b, xs, zs, rfl, rfl, hH, hB, hz, q⟩ := h
  cases rx
  obtain ⟨u, rfl, ru⟩ := rv.one
  cases ru
  obtain ⟨z, its, n, r, hl, e⟩ := I.lstM hH
  obtain ⟨its2, r2, ⟨o2, e2, c2, n2, d2⟩, hl2⟩ := I.tuple hB
  have hl2' := r2.length
  obtain ⟨oc, od, dt, sl⟩ := o2
  dsimp only at c2 d2
  subst c2 d2
  have hsz : its.toArray.size + its2.toArray.size ≤ sizeLine := by rw [List.size_toArray, List.size_toArray]; omega
  have hlong : ¬ (!its.toArray.isEmpty && Builtin.List.listTooLong (its.toArray.size + its2.toArray.size)) = true := by
    rw [notLongL hsz, Bool.and_false]
    exact Bool.false_ne_true
  refine call_meets PySem.F.slot_list_extend ⟨_, e, rfl⟩ PySem.F.entry_list_extend (PySem.F.args_list_extend_2 _ _)
    (list_extend_tup l its.toArray n b its2.toArray n2 od sl hlong (by rw [List.size_toArray]; omega) (by omega)) ⟨e, e2, ?_⟩
  refine ⟨.non, _, I.lset (its' := its ++ its2) hH e (by simp) (r.append r2) ?_, rfl, q⟩
  rw [List.length_append]
  omega))
end HA
/-! A28: steps for repr and == of whole trees of things. -/
namespace HA
open PySem PySem.Spec PyProof.Rows L2
/-- d is the data p, shown in at most n, at most k deep -/
structure Pw (M : Mem) (d : D) (p : PyData) (n k : Nat) : Prop where
  dr : DR M d p
  sh : Sh p n k
  ly : p.canLay0 = true
structure PwL (M : Mem) (ds : List D) (ps : List PyData) (n k : Nat) : Prop where
  dr : DRA M ds ps
  sh : PyData.showableAll ps = true
  ln : ((PyData.shownAll ps).map (·.length)).sum + 2 * (PyData.shownAll ps).length ≤ n
  dp : PyData.depthAll ps ≤ k
  nd : PyData.hasDictAll ps = false
  ly : PyData.canLayAll0 ps = true
theorem pw_int {M : Mem} {i : Int} (h : i.natAbs < 2 ^ 1920) : Pw M (.int i) (.int i) 1921 0 := ⟨.int i, Sh.int (log_small h (Nat.le_refl _) (by decide)), rfl⟩
theorem pw_bl {M : Mem} {b : Bool} : Pw M (.bl b) (.bool b) 1921 0 := ⟨.bl b, Sh.bl b, rfl⟩
theorem pw_non {M : Mem} : Pw M .non .none 1921 0 := ⟨.non, Sh.non, rfl⟩
theorem pw_str {M : Mem} {x : Str} (h : (reprText x).length ≤ 1921) (h2 : PyData.canLay0 (.str x) = true) : Pw M (.str x) (.str x) 1921 0 := ⟨.str x, Sh.str h, h2⟩
theorem pw_tI {M : Mem} {ns : List Int} (h : SmallI ns) : Pw M (tI ns) (.tuple (ns.map .int)) (ns.length * 1923 + 4) 1 := ⟨.tup (.ints ns), by have := Sh.tup (Sh.ints h); rwa [List.length_map] at this, by simp [PyData.canLay0, canLay_ints]⟩
theorem pw_lI {M : Mem} {ns : List Int} (h : SmallI ns) : Pw M (lI ns) (.list (ns.map .int)) (ns.length * 1923 + 4) 1 := ⟨.lst rfl (.ints ns), by have := Sh.lst (Sh.ints h); rwa [List.length_map] at this, by simp [PyData.canLay0, canLay_ints]⟩
theorem pwl_nil {M : Mem} : PwL M [] [] 0 0 := ⟨.nil, rfl, by simp [PyData.shownAll], by simp [PyData.depthAll], rfl, rfl⟩
theorem pwl_cons {M : Mem} {d : D} {p : PyData} {ds : List D} {ps : List PyData} {n m k j : Nat} (a : Pw M d p n k) (r : PwL M ds ps m j) : PwL M (d :: ds) (p :: ps) (n + 2 + m) (max k j) := (by exact HA.Wq.get : @HA.Wq (PwL M (d :: ds) (p :: ps) (n + 2 + m) (max k j)) (by
  have h1 := a.sh.ln
  have h2 := r.ln
  have h3 := a.sh.dp
  have h4 := r.dp
  refine ⟨.cons a.dr r.dr, by simp [PyData.showableAll, a.sh.sh, r.sh], ?_, ?_, by simp [PyData.hasDictAll, a.sh.nd, r.nd], by simp [PyData.canLayAll0, a.ly, r.ly]⟩
  · simp only [PyData.shownAll, List.map_cons, List.sum_cons, List.length_cons]; omega
  · simp only [PyData.depthAll]; omega))
theorem pwl_map {α : Type} {M : Mem} {f : α → D} {g : α → PyData} {n k : Nat} : ∀ {l : List α}, (∀ a ∈ l, Pw M (f a) (g a) n k) → PwL M (l.map f) (l.map g) (l.length * (n + 2)) k
  | [], _ => ⟨.nil, rfl, by simp [PyData.shownAll], by simp [PyData.depthAll], rfl, rfl⟩
  | a :: l, h => by
    have := pwl_cons (h a List.mem_cons_self) (pwl_map fun b hb => h b (List.mem_cons_of_mem _ hb))
    refine ⟨this.dr, this.sh, Nat.le_trans this.ln ?_, Nat.le_trans this.dp (by omega), this.nd, this.ly⟩
    rw [List.length_cons, Nat.add_mul, Nat.one_mul]; omega
theorem pw_tup {M : Mem} {ds : List D} {ps : List PyData} {n k : Nat} (h : PwL M ds ps n k) : Pw M (.tup ds) (.tuple ps) (n + 4) (k + 1) := (by exact HA.Wq.get : @HA.Wq (Pw M (.tup ds) (.tuple ps) (n + 4) (k + 1)) (by
  refine ⟨.tup h.dr, ⟨by simpa [PyData.showable] using h.sh, ?_, by have := h.dp; simp only [PyData.depth]; omega, by simpa [PyData.hasDict] using h.nd⟩, by simpa [PyData.canLay0] using h.ly⟩
  have := tupleText_len_le (PyData.shownAll ps)
  have := h.ln
  simp only [PyData.shown]; omega))
theorem pw_lst' {M : Mem} {d : D} {ds : List D} {ps : List PyData} {n k : Nat} (e : LsAt M d ds) (h : PwL M ds ps n k) : Pw M d (.list ps) (n + 4) (k + 1) := (by exact HA.Wq.get : @HA.Wq (Pw M d (.list ps) (n + 4) (k + 1)) (by
  refine ⟨.lst e h.dr, ⟨by simpa [PyData.showable] using h.sh, ?_, by have := h.dp; simp only [PyData.depth]; omega, by simpa [PyData.hasDict] using h.nd⟩, by simpa [PyData.canLay0] using h.ly⟩
  have := listText_len_le (PyData.shownAll ps)
  have := h.ln
  simp only [PyData.shown]; omega))
theorem pw_lst {M : Mem} {ds : List D} {ps : List PyData} {n k : Nat} (h : PwL M ds ps n k) : Pw M (.lst ds) (.list ps) (n + 4) (k + 1) := pw_lst' rfl h
theorem pw_ref {M : Mem} {a : Addr} {ds : List D} {ps : List PyData} {n k : Nat} (e : M a = some (.lst ds)) (h : PwL M ds ps n k) : Pw M (.ref a) (.list ps) (n + 4) (k + 1) := pw_lst' e h
def tT (ns : List (List Int)) : D := .tup (ns.map tI)
theorem pw_tT {M : Mem} {nss : List (List Int)} {b : Nat} (h : ∀ ns ∈ nss, SmallI ns ∧ ns.length ≤ b) : Pw M (tT nss) (.tuple (nss.map fun ns => .tuple (ns.map .int))) (nss.length * (b * 1923 + 4 + 2) + 4) 2 := (by exact HA.Wq.get : @HA.Wq (Pw M (tT nss) (.tuple (nss.map fun ns => .tuple (ns.map .int))) (nss.length * (b * 1923 + 4 + 2) + 4) 2) (by
  refine pw_tup (ds := nss.map tI) (pwl_map fun ns hn => ?_)
  obtain ⟨h1, h2⟩ := h ns hn
  have := pw_tI (M := M) h1
  exact ⟨this.dr, this.sh.mono (by have := Nat.mul_le_mul_right 1923 h2; omega) (Nat.le_refl _), this.ly⟩))
theorem i_repr {M : Mem} {Q : DK} {d : D} {p : PyData} {n k : Nat} (h : Pw M d p n k) (hn : n ≤ 16777216) (hk : k ≤ 60) (q : Q (.str p.shown) M) : cRepr [d] M Q := cRepr_of h.dr (h.sh.ok hn hk) q
theorem Pw.shaped {M : Mem} {d : D} {p : PyData} {n k : Nat} (h : Pw M d p n k) (hk : k ≤ 60) : SeqAt.shaped p = true := by
  have := h.sh.dp
  simp [SeqAt.shaped, h.ly]; omega
/-- the same data, of tuples or lists -/
theorem i_eqPt {M : Mem} {Q : DK} {b : Bool} {xs : List D} {e : D} {p q : PyData} {n k m j : Nat} (h1 : Pw M (.tup xs) p n k) (h2 : Pw M e q m j) (hk : k ≤ 60) (hj : j ≤ 60) (h : Q (.bl (b ^^ PyData.eqv p q)) M) : bEq b (.tup xs) e M Q := ⟨p, q, h1.dr, h2.dr, h1.shaped hk, h2.shaped hj, h⟩
theorem i_eqPl {M : Mem} {Q : DK} {b : Bool} {xs : List D} {e : D} {p q : PyData} {n k m j : Nat} (h1 : Pw M (.lst xs) p n k) (h2 : Pw M e q m j) (hk : k ≤ 60) (hj : j ≤ 60) (h : Q (.bl (b ^^ PyData.eqv p q)) M) : bEq b (.lst xs) e M Q := ⟨p, q, h1.dr, h2.dr, h1.shaped hk, h2.shaped hj, h⟩
theorem i_eqPr {M : Mem} {Q : DK} {b : Bool} {a : Addr} {e : D} {p q : PyData} {n k m j : Nat} (h1 : Pw M (.ref a) p n k) (h2 : Pw M e q m j) (hk : k ≤ 60) (hj : j ≤ 60) (h : Q (.bl (b ^^ PyData.eqv p q)) M) : bEq b (.ref a) e M Q := ⟨p, q, h1.dr, h2.dr, h1.shaped hk, h2.shaped hj, h⟩
/-- the same tree twice -/
theorem i_eqTt {M : Mem} {Q : DK} {b : Bool} {xs : List D} {p : PyData} {n k : Nat} (h1 : Pw M (.tup xs) p n k) (hk : k ≤ 60) (h : Q (.bl (b ^^ true)) M) : bEq b (.tup xs) (.tup xs) M Q := i_eqPt h1 h1 hk hk (by rw [eqv_refl _ h1.sh.nd]; exact h)
theorem i_eqTl {M : Mem} {Q : DK} {b : Bool} {xs : List D} {p : PyData} {n k : Nat} (h1 : Pw M (.lst xs) p n k) (hk : k ≤ 60) (h : Q (.bl (b ^^ true)) M) : bEq b (.lst xs) (.lst xs) M Q := i_eqPl h1 h1 hk hk (by rw [eqv_refl _ h1.sh.nd]; exact h)
theorem e_S0 {M : Mem} {Q : DK} {x : Str} (h : Q (.bl true) M) : bEq false (.str x) (.str x) M Q := i_eqS (by simpa using h)
theorem e_S1 {M : Mem} {Q : DK} {x : Str} (h : Q (.bl false) M) : bEq true (.str x) (.str x) M Q := i_eqS (by simpa using h)
theorem e_I0 {M : Mem} {Q : DK} {x : Int} (h : Q (.bl true) M) : bEq false (.int x) (.int x) M Q := i_eqI (by simpa using h)
theorem e_I1 {M : Mem} {Q : DK} {x : Int} (h : Q (.bl false) M) : bEq true (.int x) (.int x) M Q := i_eqI (by simpa using h)
theorem e_t0 {M : Mem} {Q : DK} {x : List Int} (h : Q (.bl true) M) : bEq false (tI x) (tI x) M Q := i_eqtI (by simpa using h)
theorem e_t1 {M : Mem} {Q : DK} {x : List Int} (h : Q (.bl false) M) : bEq true (tI x) (tI x) M Q := i_eqtI (by simpa using h)
theorem e_l0 {M : Mem} {Q : DK} {x : List Int} (h : Q (.bl true) M) : bEq false (lI x) (lI x) M Q := i_eqlI (by simpa using h)
theorem e_l1 {M : Mem} {Q : DK} {x : List Int} (h : Q (.bl false) M) : bEq true (lI x) (lI x) M Q := i_eqlI (by simpa using h)
theorem e_T0 {M : Mem} {Q : DK} {xs : List D} {p : PyData} {n k : Nat} (h1 : Pw M (.tup xs) p n k) (hk : k ≤ 60) (h : Q (.bl true) M) : bEq false (.tup xs) (.tup xs) M Q := i_eqTt h1 hk h
theorem e_T1 {M : Mem} {Q : DK} {xs : List D} {p : PyData} {n k : Nat} (h1 : Pw M (.tup xs) p n k) (hk : k ≤ 60) (h : Q (.bl false) M) : bEq true (.tup xs) (.tup xs) M Q := i_eqTt h1 hk h
theorem e_L0 {M : Mem} {Q : DK} {xs : List D} {p : PyData} {n k : Nat} (h1 : Pw M (.lst xs) p n k) (hk : k ≤ 60) (h : Q (.bl true) M) : bEq false (.lst xs) (.lst xs) M Q := i_eqTl h1 hk h
theorem e_L1 {M : Mem} {Q : DK} {xs : List D} {p : PyData} {n k : Nat} (h1 : Pw M (.lst xs) p n k) (hk : k ≤ 60) (h : Q (.bl false) M) : bEq true (.lst xs) (.lst xs) M Q := i_eqTl h1 hk h
theorem f6 {a b c d e f : Int} : D.tup [.int a, .int b, .int c, .int d, .int e, .int f] = tI [a, b, c, d, e, f] := rfl
theorem g6 {a b c d e f : Int} : D.lst [.int a, .int b, .int c, .int d, .int e, .int f] = lI [a, b, c, d, e, f] := rfl
theorem f7 {a b c d e f g : Int} : D.tup [.int a, .int b, .int c, .int d, .int e, .int f, .int g] = tI [a, b, c, d, e, f, g] := rfl
theorem g7 {a b c d e f g : Int} : D.lst [.int a, .int b, .int c, .int d, .int e, .int f, .int g] = lI [a, b, c, d, e, f, g] := rfl
theorem f8 {a b c d e f g h : Int} : D.tup [.int a, .int b, .int c, .int d, .int e, .int f, .int g, .int h] = tI [a, b, c, d, e, f, g, h] := rfl
theorem g8 {a b c d e f g h : Int} : D.lst [.int a, .int b, .int c, .int d, .int e, .int f, .int g, .int h] = lI [a, b, c, d, e, f, g, h] := rfl
theorem f9 {a b c d e f g h i : Int} : D.tup [.int a, .int b, .int c, .int d, .int e, .int f, .int g, .int h, .int i] = tI [a, b, c, d, e, f, g, h, i] := rfl
theorem g9 {a b c d e f g h i : Int} : D.lst [.int a, .int b, .int c, .int d, .int e, .int f, .int g, .int h, .int i] = lI [a, b, c, d, e, f, g, h, i] := rfl
theorem f10 {a b c d e f g h i j : Int} : D.tup [.int a, .int b, .int c, .int d, .int e, .int f, .int g, .int h, .int i, .int j] = tI [a, b, c, d, e, f, g, h, i, j] := rfl
theorem g10 {a b c d e f g h i j : Int} : D.lst [.int a, .int b, .int c, .int d, .int e, .int f, .int g, .int h, .int i, .int j] = lI [a, b, c, d, e, f, g, h, i, j] := rfl
theorem f11 {a b c d e f g h i j k : Int} : D.tup [.int a, .int b, .int c, .int d, .int e, .int f, .int g, .int h, .int i, .int j, .int k] = tI [a, b, c, d, e, f, g, h, i, j, k] := rfl
theorem g11 {a b c d e f g h i j k : Int} : D.lst [.int a, .int b, .int c, .int d, .int e, .int f, .int g, .int h, .int i, .int j, .int k] = lI [a, b, c, d, e, f, g, h, i, j, k] := rfl
theorem f12 {a b c d e f g h i j k l : Int} : D.tup [.int a, .int b, .int c, .int d, .int e, .int f, .int g, .int h, .int i, .int j, .int k, .int l] = tI [a, b, c, d, e, f, g, h, i, j, k, l] := rfl
theorem g12 {a b c d e f g h i j k l : Int} : D.lst [.int a, .int b, .int c, .int d, .int e, .int f, .int g, .int h, .int i, .int j, .int k, .int l] = lI [a, b, c, d, e, f, g, h, i, j, k, l] := rfl
theorem i_isNn {M : Mem} {Q : DK} {b : Bool} (h : Q (.bl !b) M) : bIsN b .non .non M Q := by cases b <;> exact h
theorem i_isNx {M : Mem} {Q : DK} {b : Bool} {x : D} (hx : isNon x = false) (h : Q (.bl b) M) : bIsN b x .non M Q := i_isN (by rw [hx]; cases b <;> exact h)
theorem br_nt {A B : Prop} (h : B) : ((!true) = true → A) ∧ ((!true) = false → B) := br_false h
theorem br_nf {A B : Prop} (h : A) : ((!false) = true → A) ∧ ((!false) = false → B) := br_true h
theorem i_isiT {M : Mem} {Q : DK} {x : D} {S T : String} (h : TyD M x S) (hT : T ∈ tyTab) (e : isB S T = true) (q : Q (.bl true) M) : cIsi [x, .ty T] M Q := ⟨S, h, hT, by rw [e]; exact q⟩
theorem i_isiF {M : Mem} {Q : DK} {x : D} {S T : String} (h : TyD M x S) (hT : T ∈ tyTab) (e : isB S T = false) (q : Q (.bl false) M) : cIsi [x, .ty T] M Q := ⟨S, h, hT, by rw [e]; exact q⟩
theorem erase_map : ∀ {k : Nat} {ns : List Int}, (ns.map D.int).eraseIdx k = (ns.eraseIdx k).map D.int
  | _, [] => rfl
  | 0, n :: r => rfl
  | k + 1, n :: r => by
    show _ :: (r.map D.int).eraseIdx k = _ :: (r.eraseIdx k).map D.int
    rw [erase_map]
theorem i_popat {M : Mem} {Q : DK} {p : Addr} {ns : List Int} {i : Int} (hM : M p = some (.lst (ns.map .int))) (h0 : 0 ≤ i) (h1 : i < ns.length) (hl : ns.length ≤ 1000000) (q : Q (.int (ns.getD i.toNat 0)) (mset M p (.lst ((ns.eraseIdx i.toNat).map .int)))) : mPopAt (.ref p) [.int i] M Q := (by exact HA.Wq.get : @HA.Wq (mPopAt (.ref p) [.int i] M Q) (by
  obtain ⟨k, rfl⟩ : ∃ k : Nat, i = k := ⟨i.toNat, by omega⟩
  rw [Int.toNat_natCast] at q
  have hk : k < ns.length := by omega
  refine ⟨_, k, .int ns[k], hM, by omega, ?_, by simp [hk], ?_⟩
  · unfold seqIndex?
    have e : (if (k : Int) < 0 then (k : Int) + ((ns.map D.int).length : Nat) else (k : Int)) = k := if_neg (by omega)
    simp only [e]
    rw [if_pos (by simp [hk])]; simp
  · rw [List.getD_eq_getElem?_getD, List.getElem?_eq_getElem hk] at q
    have e : (ns.map D.int).eraseIdx k = (ns.eraseIdx k).map D.int := erase_map
    rw [e]; exact q))
theorem sm64 {i : Int} (h : i.natAbs < 18446744073709551616) : i.natAbs < 2 ^ 1920 := Nat.lt_of_lt_of_le h (by decide +kernel)
theorem smN {i : Int} (b : Nat) (h : i.natAbs < 2 ^ b) (hb : b ≤ 1920) : i.natAbs < 2 ^ 1920 := Nat.lt_of_lt_of_le h (Nat.pow_le_pow_right (by decide) hb)
theorem br_tt {A B : Prop} (h : A) : ((false ^^ true) = true → A) ∧ ((false ^^ true) = false → B) := br_true h
theorem br_tf {A B : Prop} (h : B) : ((true ^^ true) = true → A) ∧ ((true ^^ true) = false → B) := br_false h
end HA
/-! A29: enumerate of a tuple. -/
namespace HA
open PySem PySem.Spec PyProof.Rows L2
open Sem (wp)
set_option maxHeartbeats 1000000 in
theorem meets_enumerate_newT {v : Value} {o : Obj} {H : Heap → Prop} (B : Begins v o H) :
    Meets (Builtin.«enumerate.__new__» ⟨[.type "enumerate", v], []⟩) (fun _ R s => H s.heap ∧
      R (.ok (.ret (.ref (s.heap.push o).objs.size))) { s with heap := (s.heap.push o).push { cls := .type "enumerate", data := .fields #[.none, .bool false, .ref s.heap.objs.size, rawInt 0, .none, .none] } }) :=
  .of_wp fun prog w A R s h => by
    obtain ⟨hp, g, d, tk, os⟩ := s; obtain ⟨h1, h⟩ := h
    have hsub := sub_enumerate
    have q1 : ∀ {A' : Around} {E : Value → Shared → Prop} {Q : Value → Shared → Prop}, Q (.ref hp.objs.size) ⟨hp.push o, g, d, tk, os⟩ → wpAny (model prog w) A' (pyIter v) Q E ⟨hp, g, d, tk, os⟩ :=
      fun q => B.iter prog w _ _ ⟨hp, g, d, tk, os⟩ _ h1 q
    wp_walk using q1
    refine wpAny_stack_any fun st => wpAny_pure ?_
    split
    · rename_i c _ _ _ _ _
      cases (c == Value.type "enumerate")
      · wp_walk using q1
        exact ⟨_, rfl, h⟩
      · wp_walk using q1
        exact ⟨_, rfl, h⟩
    · wp_walk using q1
      exact ⟨_, rfl, h⟩
theorem call_enumerate_tup {prog : Program} {w : World} {A : Around} {E : Value → Shared → Prop} {s : Shared} {t : Addr} {items : Array Value} {Q : Value → Shared → Prop} (hL : s.heap.IsTuple t items)
    (h : ∀ h', IsEnum h' (s.heap.objs.size + 1) s.heap.objs.size 0 .none → h'.IsTupleIter s.heap.objs.size t 0 → h'.objs.size = s.heap.objs.size + 2 →
      (∀ b o, s.heap.get? b = some o → h'.get? b = some o) → Q (.ref (s.heap.objs.size + 1)) { s with heap := h' }) :
    wpAny (model prog w) A (call (.type "enumerate") [.ref t]) Q E s := by
  have B := begins_tuple t items
  refine callType_new F.called_enumerate (by decide) (F.typeCall_enumerate_1 _) (F.newCall_enumerate_1 _) (fun obj => F.args_object_init_2 obj _) F.entry_enumerate_new
    (meets_enumerate_newT B) ⟨hL, ?_⟩
  have hz : (s.heap.push { cls := .type "tuple_iterator", data := .fields #[.ref t, .int 0 0] }).objs.size = s.heap.objs.size + 1 := Heap.size_push ..
  show _ ∧ _
  rw [hz]
  have he : IsEnum ((s.heap.push { cls := .type "tuple_iterator", data := .fields #[.ref t, .int 0 0] }).push
      { cls := .type "enumerate", data := .fields #[.none, .bool false, .ref s.heap.objs.size, rawInt 0, .none, .none] }) (s.heap.objs.size + 1) s.heap.objs.size 0 .none := by
    have := Heap.get?_push_size (s.heap.push { cls := .type "tuple_iterator", data := .fields #[.ref t, .int 0 0] })
      (o := { cls := .type "enumerate", data := .fields #[.none, .bool false, .ref s.heap.objs.size, rawInt 0, .none, .none] }) rfl
    rw [hz] at this; exact this
  refine ⟨⟨_, he, rfl⟩, h _ he ⟨_, Heap.get?_push_of_some _ (Heap.get?_push_size _ rfl), rfl, rfl⟩ (by rw [Heap.size_push, hz]) fun b o x => Heap.get?_push_of_some _ (Heap.get?_push_of_some _ x)⟩
theorem pyNext_enumT_end {prog : Program} {w : World} {A : Around} {E : Value → Shared → Prop} {s : Shared} {e it l : Addr} {i : Nat} {items : Array Value} {old : Value} {Q : Option Value → Shared → Prop} (hh : A.handled = none)
    (he : IsEnum s.heap e it i old) (hit : s.heap.IsTupleIter it l i) (hl : s.heap.IsTuple l items) (hx : items[i]? = none)
    (hQ : ∀ h', Heap.ExtBut it s.heap h' → Q none { s with heap := h' }) : wpAny (model prog w) A (pyNext (.ref e)) Q E s := by
  have hT : s.TypeIs (.ref e) "enumerate" := ⟨_, he, rfl⟩
  unfold pyNext
  refine wpAny_bind (wpAny_attempt (wpAny_callSpecial?_slot (name := Str.ofString "__next__") hT F.slot_enumerate_next
    (wpAny_call_entry F.slot_enumerate_next hT F.entry_enumerate_next ?_ (F.args_enumerate_next_1 _))))
  show wpAny _ _ (field (.ref e) 2 >>= _) _ _ _
  refine wpAny_bind (wpAny_field he rfl (x := .ref it) rfl ?_)
  refine wpAny_bind (RZ.nextOf_tuple_end hh hit hl hx fun h' x he' hx' => ?_)
  obtain ⟨o, ho, hc⟩ := hx'
  refine wpAny_bind (wpAny_isInstance (T := "StopIteration") (b := true) ⟨o, ho, hc⟩ isSubtype_stop ?_)
  exact wpAny_pure (hQ _ he')
/-- the tuple at a as it stands at each turn, each item in a new pair -/
def IteT (K : PySem.W.Frag) (a : Addr) : It :=
  ⟨fun i H => ∃ (xs : List V) (x : V), SqT K H a xs ∧ xs[i]? = some x, fun i H v H' => ∃ T x, v = .ref T ∧ H T = none ∧ H' = upd H T (.tup [.int (i : Nat), x]) ∧ ∀ xs, SqT K H a xs → xs[i]? = some x, fun i H => ∃ xs : List V, SqT K H a xs ∧ xs.length ≤ i⟩
theorem turn_enumT {P : Program} {w : World} {K : PySem.W.Frag} {elts : List Expr} {kk : Nat} {tpos : Pos} {a e it : Addr} (hai : a ≠ it) (hae : e ≠ a) :
    Turn P w K (.Tuple elts kk tpos) (IteT K a) [e, it] e (fun i h => (∃ old, IsEnum h e it ((i : Nat) : Int) old) ∧ h.IsTupleIter it a i ∧ e ≠ it) where
  mem := by simp
  obj := fun i h st b hb => by
    obtain ⟨⟨old, he⟩, ⟨o, ho, hc, hd⟩, _⟩ := st
    have e' : b = e ∨ b = it := by simpa using hb
    rcases e' with z | z
    · rw [z]; exact ⟨_, he, fun v q => nomatch q⟩
    · rw [z]; exact ⟨o, ho, fun v q => by rw [hd] at q; cases q⟩
  keep := fun i h h' st k => let ⟨⟨old, he⟩, hi, hne⟩ := st; ⟨⟨old, k e (by simp) _ he⟩, hi.at fun o q => k it (by simp) o q, hne⟩
  item := by
    intro X hP hw hK hc i pins s σ H E I hf st hg
    subst hP hw hK
    obtain ⟨⟨old, he⟩, hit, hne⟩ := st
    obtain ⟨xs, x, hq, hx⟩ := hg
    obtain ⟨its, rv, p, hz⟩ := I.tuple hq
    obtain ⟨u, hu, ru⟩ := rv.get hx
    have hel : e < s.heap.objs.size := Heap.lt_size he
    have hil : it < s.heap.objs.size := by obtain ⟨_, q, _⟩ := hit; exact Heap.lt_size q
    have hlt : i < its.toArray.size := by
      have := rv.length
      have := (List.getElem?_eq_some_iff.mp hx).1
      simp; omega
    refine wpAny_pyNext_enum_itemD (Draws.tuple (A := X.A.in1) (show X.A.in1.handled = none from I.ok.hd hc) it a hai its.toArray) he ⟨hit, p⟩ hlt hne (by simp; exact ⟨hne, hae⟩) fun x' h' tk hx' ho hst hT hsz hk => ?_
    obtain rfl : x' = u := by
      have : its[i]? = some x' := by simpa using hx'
      rw [hu] at this; cases this; rfl
    refine ⟨_, rfl, wpAny_letOwnedTupleGo_enum (s := { s with heap := h', toks := tk + 1 }) ho fun h'' he' sb => ?_⟩
    have hT2 : h''.get? s.heap.objs.size = some { cls := .type "tuple", data := .seq #[.int i tk, x'] } := (sb.2 _ (Nat.ne_of_gt hel)).trans hT
    have new : ObjOk X.prog X.w (upd H s.heap.objs.size (.tup [.int (i : Nat), x])) h'' s.heap.objs.size (.tup [.int (i : Nat), x]) :=
      ⟨by show 2 ≤ sizeLine; decide, [.int i tk, x'], .cons ⟨_, rfl⟩ (.cons ru .nil), ⟨_, hT2, rfl, _, rfl⟩⟩
    have I1 : Inv X pins σ (upd H s.heap.objs.size (.tup [.int (i : Nat), x])) { s with heap := h'', toks := tk + 1 } :=
      I.turnedNew (ch := [e, it]) (fun b ob hb q => (sb.2 b (fun z => hb (by simp [z]))).trans (hk b ob (fun z => hb (by simp [z])) (fun z => hb (by simp [z])) q)) hf (Nat.le_refl _) new
    refine ⟨.ref s.heap.objs.size, _, I1, rfl, ⟨_, x, rfl, I.hok.fresh (Nat.le_refl _), rfl, fun ys hy => by rw [I.tuple_inj hy hq]; exact hx⟩, ⟨⟨x', ?_⟩, hst.1.at fun o q => (sb.2 it (Ne.symm hne)).trans q, hne⟩, fun b hb => ?_⟩
    · have e1 : ((i + 1 : Nat) : Int) = (i : Int) + 1 := by omega
      rw [e1]; exact he'
    · have hb' : b < s.heap.objs.size := by
        have e' : b = e ∨ b = it := by simpa using hb
        rcases e' with z | z
        · rw [z]; exact hel
        · rw [z]; exact hil
      rw [upd_ne (Nat.ne_of_lt hb')]
      exact (hf b hb).1
  done := by
    intro X hP hw hK hc i pins s σ H E I hf st hg
    subst hP hw hK
    obtain ⟨⟨old, he⟩, hit, hne⟩ := st
    obtain ⟨xs, hq, hx⟩ := hg
    obtain ⟨its, rv, p, hz⟩ := I.tuple hq
    obtain ⟨f0, f1, f2, f3, f4, f5⟩ := hf it (by simp)
    have hl := rv.length
    exact pyNext_enumT_end (I.ok.hd hc) he hit p (by simp; omega) fun h' eb => ⟨rfl, I.turned (t' := s.toks) (fun b o hb q => eb b o hb q) f0 f1 f3 f4 f5⟩
  self := fun A i s Q E st h => let ⟨⟨_, he⟩, _⟩ := st; wpAny_pyIter_enum he h
def iEnumT (K : PySem.W.Frag) (ta : TA) : TI := fun σ H R => ta σ H fun vs H1 => ∃ a xs, vs = [.ref a] ∧ SqT K H1 a xs ∧ R (IteT K a) H1
theorem pi_enumT {X : Cx} {e : Expr} {ta : TA} {p pos tpos : Pos} {elts : List Expr} {kk : Nat} (hg : Gl X "enumerate") (hm : X.mg "enumerate" = none) (ha : PA X [e] ta) (hs : starEach [e] X.env = [(false, eval e X.env)] := by rfl) :
    PI X (.Tuple elts kk tpos) (.Call (.Name "enumerate" p) [e] [] pos) (iEnumT X.K ta) := by
  refine ⟨fun pins s σ H R I h => ?_⟩
  refine Call_ (ld_blt I hg hm boot_enumerate (PyProof.Rows.callWith_type1 (thn (ha.run pos pins s σ H _ I h) fun us s1 ⟨vs, H1, I1, r1, q1⟩ => ?_) hs rfl))
  obtain ⟨a, xs, ex, hq, q⟩ := q1
  subst ex
  cases r1 with
  | cons r rr =>
    cases rr
    cases r
    obtain ⟨its, rv, p', hz⟩ := I1.tuple hq
    have hal : a < s1.heap.objs.size := by obtain ⟨_, q, _⟩ := p'; exact Heap.lt_size q
    refine call_enumerate_tup p' fun h' he hit hsz hk => wpAny_pyIter_enum he ?_
    have I2 : Inv X pins σ H1 { s1 with heap := h' } := I1.kept (t' := s1.toks) hk
    refine ⟨s1.heap.objs.size + 1, [s1.heap.objs.size + 1, s1.heap.objs.size], _, _, H1, rfl, I2, turn_enumT (Nat.ne_of_lt hal) (Nat.ne_of_gt (Nat.lt_succ_of_lt hal)), ⟨⟨.none, he⟩, hit, Nat.succ_ne_self _⟩, fun b hb => ?_, q⟩
    have e' : b = s1.heap.objs.size + 1 ∨ b = s1.heap.objs.size := by simpa using hb
    have hle : s1.heap.objs.size ≤ b := by
      rcases e' with z | z
      · rw [z]; exact Nat.le_add_right _ _
      · rw [z]; exact Nat.le_refl _
    exact I1.fpOk hle (I1.hok.fresh hle)
theorem itok_enumT {K : PySem.W.Frag} {G : Hp} {a : Addr} {xs : List D} {st : Mem → Prop} (h : ∀ G' M H, Same G G' → SM K G' M H → st M → ∃ vs, SqT K H a vs ∧ RpA K G' xs vs) : ItOk K G (enumD xs) st (IteT K a) where
  go := fun i G' M H hi e m s => by
    rw [enumD_len] at hi
    obtain ⟨vs, h1, h2⟩ := h G' M H e m s
    obtain ⟨v, hv⟩ := get_lt (xs := vs) (i := i) (by rw [← h2.len]; exact hi)
    exact ⟨vs, v, h1, hv⟩
  stop := fun i G' M H hi e m s => by
    rw [enumD_len] at hi
    obtain ⟨vs, h1, h2⟩ := h G' M H e m s
    exact ⟨vs, h1, by rw [← h2.len]; exact hi⟩
  yld := fun i G' M H x H' hi e m s y => by
    rw [enumD_len] at hi
    obtain ⟨vs, h1, h2⟩ := h G' M H e m s
    obtain ⟨T, u, rfl, hT, rfl, hu⟩ := y
    obtain ⟨d, hd, r⟩ := h2.getV (hu vs h1)
    have g0 := (m.free hT).1
    refine ⟨.tup [.int (i : Nat), d], _, by rw [enumD_get hi, hd]; rfl, same_upd g0, m.frozen hT, .tup (.inl upd_same) (.cons (.int _) (.cons (r.up (same_upd g0)) .nil))⟩
section
variable {X : Cx} {B : Hp} {W : WX} {e : Expr} {te : AE} {tas : AA} {pos p tpos : Pos} {elts : List Expr} {kk : Nat}
def aEnumT (t : AA) : AI := fun σ M Q E => t σ M (fun ds M1 => match ds with
  | [.tup xs] => Q (enumD xs) (fun _ => True) M1
  | _ => False) E
theorem qi_enumT (hg : Gl X "enumerate") (hm : X.mg "enumerate" = none) (ha : QA X B W [e] tas) (hs : starEach [e] X.env = [(false, eval e X.env)] := by rfl) : QI X B W (.Tuple elts kk tpos) (.Call (.Name "enumerate" p) [e] [] pos) (aEnumT tas) :=
  pi_imp (pi_enumT hg hm ha hs) fun s H R ⟨G, σ, M, Q, E, ss, h, k, kx⟩ => ⟨G, σ, M, _, E, ss, h, fun vs H1 ds M1 G1 e1 m1 r1 q => by
    match ds, q with
    | [.tup xs], q =>
      obtain ⟨v, rfl, rv⟩ := rpa1 r1
      obtain ⟨a, ws, rfl, p1, t⟩ := rp_tup rv
      have ok : ItOk X.K G1 (enumD xs) (fun _ => True) (IteT X.K a) := itok_enumT fun G' M' H' e' m' _ => ⟨ws, same_sqt m'.same (same_sqt e' p1), t.up e'⟩
      exact ⟨a, ws, rfl, same_sqt m1.same p1, k _ H1 _ _ M1 G1 e1 m1 ok q⟩, kx⟩
end
/-! ### zip of two tuples, of two lists -/
def zipD (xs ys : List D) : List D := List.zipWith (fun x y => D.tup [x, y]) xs ys
theorem zipD_len {xs ys : List D} : (zipD xs ys).length = min xs.length ys.length := by simp [zipD]
theorem zipD_get {xs ys : List D} {i : Nat} {x y : D} (h1 : xs[i]? = some x) (h2 : ys[i]? = some y) : (zipD xs ys)[i]? = some (.tup [x, y]) := by
  simp [zipD, List.getElem?_zipWith, h1, h2]
theorem itok_zipT {K : PySem.W.Frag} {G : Hp} {a b : Addr} {xs ys : List D} {st : Mem → Prop} (h : ∀ G' M H, Same G G' → SM K G' M H → st M → ∃ vs us, SqT K H a vs ∧ RpA K G' xs vs ∧ SqT K H b us ∧ RpA K G' ys us) : ItOk K G (zipD xs ys) st (RZ.ItzT K a b) where
  go := fun i G' M H hi e m s => by
    rw [zipD_len] at hi
    obtain ⟨vs, us, h1, h2, h3, h4⟩ := h G' M H e m s
    obtain ⟨v, hv⟩ := get_lt (xs := vs) (i := i) (by rw [← h2.len]; omega)
    obtain ⟨u, hu⟩ := get_lt (xs := us) (i := i) (by rw [← h4.len]; omega)
    exact ⟨vs, us, v, u, h1, h3, hv, hu⟩
  stop := fun i G' M H hi e m s => by
    rw [zipD_len] at hi
    obtain ⟨vs, us, h1, h2, h3, h4⟩ := h G' M H e m s
    exact ⟨vs, us, h1, h3, by rw [← h2.len, ← h4.len]; omega⟩
  yld := fun i G' M H x H' hi e m s y => by
    rw [zipD_len] at hi
    obtain ⟨vs, us, h1, h2, h3, h4⟩ := h G' M H e m s
    obtain ⟨T, u, v, rfl, hT, rfl, hu, hv⟩ := y
    obtain ⟨d1, hd1, r1⟩ := h2.getV (hu vs h1)
    obtain ⟨d2, hd2, r2⟩ := h4.getV (hv us h3)
    have g0 := (m.free hT).1
    exact ⟨.tup [d1, d2], _, zipD_get hd1 hd2, same_upd g0, m.frozen hT, .tup (.inl upd_same) (.cons (r1.up (same_upd g0)) (.cons (r2.up (same_upd g0)) .nil))⟩
theorem itok_zipL {K : PySem.W.Frag} {G : Hp} {a b : Addr} {xs ys : List D} {st : Mem → Prop} (h : ∀ G' M H, Same G G' → SM K G' M H → st M → ∃ vs us, SqL K H a vs ∧ RpA K G' xs vs ∧ SqL K H b us ∧ RpA K G' ys us) : ItOk K G (zipD xs ys) st (Itz K a b) where
  go := fun i G' M H hi e m s => by
    rw [zipD_len] at hi
    obtain ⟨vs, us, h1, h2, h3, h4⟩ := h G' M H e m s
    obtain ⟨v, hv⟩ := get_lt (xs := vs) (i := i) (by rw [← h2.len]; omega)
    obtain ⟨u, hu⟩ := get_lt (xs := us) (i := i) (by rw [← h4.len]; omega)
    exact ⟨vs, us, v, u, h1, h3, hv, hu⟩
  stop := fun i G' M H hi e m s => by
    rw [zipD_len] at hi
    obtain ⟨vs, us, h1, h2, h3, h4⟩ := h G' M H e m s
    exact ⟨vs, us, h1, h3, by rw [← h2.len, ← h4.len]; omega⟩
  yld := fun i G' M H x H' hi e m s y => by
    rw [zipD_len] at hi
    obtain ⟨vs, us, h1, h2, h3, h4⟩ := h G' M H e m s
    obtain ⟨T, u, v, rfl, hT, rfl, hu, hv⟩ := y
    obtain ⟨d1, hd1, r1⟩ := h2.getV (hu vs h1)
    obtain ⟨d2, hd2, r2⟩ := h4.getV (hv us h3)
    have g0 := (m.free hT).1
    exact ⟨.tup [d1, d2], _, zipD_get hd1 hd2, same_upd g0, m.frozen hT, .tup (.inl upd_same) (.cons (r1.up (same_upd g0)) (.cons (r2.up (same_upd g0)) .nil))⟩
def zipK (Q : List D → (Mem → Prop) → Mem → Prop) (ds : List D) (M1 : Mem) : Prop := match ds with
  | [.tup xs, .tup ys] => Q (zipD xs ys) (fun _ => True) M1
  | [x, y] => ∃ xs ys, LsAt M1 x xs ∧ LsAt M1 y ys ∧ Q (zipD xs ys) (fun M => still x xs M ∧ still y ys M) M1
  | _ => False
def aZip (t : AA) : AI := fun σ M Q E => t σ M (zipK Q) E
theorem rep_ls {K : PySem.W.Frag} {G : Hp} {a : Addr} {x : D} {xs : List D} {M1 : Mem} (h1 : LsAt M1 x xs) (rv : Rp K G x (.ref a)) :
    ∀ G' M H, Same G G' → SM K G' M H → still x xs M → ∃ vs, SqL K H a vs ∧ RpA K G' xs vs := fun G' M' H' e' m' s' => by
  have r' := rv.up e'
  match x, h1, s', r' with
  | .lst ys, h1, s', r' => cases h1; cases r' with | lst g t => exact ⟨_, .of (m'.same _ _ g), t⟩
  | .frz ys, h1, s', r' => cases h1; cases r' with | frz g t => exact ⟨_, m'.same.seq g, t⟩
  | .ref b, h1, s', r' => cases r'; obtain ⟨vs, t, eH⟩ := cellL m' s'; exact ⟨vs, .of eH, t⟩
section
variable {X : Cx} {B : Hp} {W : WX} {e e2 : Expr} {tas : AA} {pos p tpos : Pos} {elts : List Expr} {kk : Nat}
theorem qi_zip (hg : Gl X "zip") (hm : X.mg "zip" = none) (ha : QA X B W [e, e2] tas)
    (hs : starEach [e, e2] X.env = (false, eval e X.env) :: starEach [e2] X.env := by rfl) (hpl : (backTo pos (starEach [e2] X.env)).any (·.1) = false := by rfl) : QI X B W (.Tuple elts kk tpos) (.Call (.Name "zip" p) [e, e2] [] pos) (aZip tas) :=
  pi_imp (RZ.pi_zipA hg hm ha hs hpl) fun s H R ⟨G, σ, M, Q, E, ss, h, k, kx⟩ => ⟨G, σ, M, _, E, ss, h, fun vs H1 ds M1 G1 e1 m1 r1 q => by
    unfold zipK at q
    split at q
    · next xs ys =>
      obtain ⟨v, u, rfl, rv, ru⟩ := rpa2 r1
      obtain ⟨a, ws, rfl, p1, t⟩ := rp_tup rv
      obtain ⟨b, us, rfl, p2, t2⟩ := rp_tup ru
      have ok : ItOk X.K G1 (zipD xs ys) (fun _ => True) (RZ.ItzT X.K a b) := itok_zipT fun G' M' H' e' m' _ => ⟨ws, us, same_sqt m'.same (same_sqt e' p1), t.up e', same_sqt m'.same (same_sqt e' p2), t2.up e'⟩
      exact ⟨a, b, ws, us, rfl, .inr ⟨same_sqt m1.same p1, same_sqt m1.same p2, k _ H1 _ _ M1 G1 e1 m1 ok q⟩⟩
    · obtain ⟨xs, ys, l1, l2, q⟩ := q
      obtain ⟨v, u, rfl, rv, ru⟩ := rpa2 r1
      refine lsAt m1 rv l1 fun a ws ea p t => ?_
      refine lsAt m1 ru l2 fun b us eb p2 t2 => ?_
      subst ea eb
      have ok : ItOk X.K G1 (zipD xs ys) (fun M => still _ xs M ∧ still _ ys M) (Itz X.K a b) := itok_zipL fun G' M' H' e' m' s' => by
        obtain ⟨vs, a1, a2⟩ := rep_ls l1 rv G' M' H' e' m' s'.1
        obtain ⟨us, b1, b2⟩ := rep_ls l2 ru G' M' H' e' m' s'.2
        exact ⟨vs, us, a1, a2, b1, b2⟩
      exact ⟨a, b, ws, us, rfl, .inl ⟨p, p2, k _ H1 _ _ M1 G1 e1 m1 ok q⟩⟩
    · exact q.elim, kx⟩
end
/-! ### steps -/
section
variable {σ : AS} {M : Mem} {Q : List D → (Mem → Prop) → Mem → Prop} {E : AXs} {tas : AA} {xs ys : List D}
def enumK (Q : List D → (Mem → Prop) → Mem → Prop) (ds : List D) (M1 : Mem) : Prop := match ds with
  | [.tup xs] => Q (enumD xs) (fun _ => True) M1
  | _ => False
theorem i_enumT (h : tas σ M (enumK Q) E) : aEnumT tas σ M Q E := h
theorem i_ent (h : Q (enumD xs) (fun _ => True) M) : enumK Q [.tup xs] M := h
theorem i_entI {ns : List Int} (h : Q (enumD (ns.map .int)) (fun _ => True) M) : enumK Q [tI ns] M := h
theorem i_zip (h : tas σ M (zipK Q) E) : aZip tas σ M Q E := h
theorem i_zpt (h : Q (zipD xs ys) (fun _ => True) M) : zipK Q [.tup xs, .tup ys] M := h
theorem i_zptI {ns ms : List Int} (h : Q (zipD (ns.map .int) (ms.map .int)) (fun _ => True) M) : zipK Q [tI ns, tI ms] M := h
theorem i_zplI {ns ms : List Int} (h : Q (zipD (ns.map .int) (ms.map .int)) (fun _ => True) M) (hw : ∀ xs st st' M, Q xs st M → (∀ N, st' N) → Q xs st' M) : zipK Q [lI ns, lI ms] M := ⟨_, _, rfl, rfl, hw _ _ _ _ h fun _ => ⟨trivial, trivial⟩⟩
end
theorem for_enum {xs : List D} {st : Mem → Prop} {g : AG} {tb : ASt} {nx : AS → Mem → Prop} {rt : DK} {xx : AXs} {σ0 : AS} {M0 : Mem} (S : Nat → AS → Mem → Prop) (h0 : S 0 σ0 M0)
    (turn : ∀ i x, xs[i]? = some x → ∀ σ M, S i σ M → st M ∧ g (.tup [.int (i : Nat), x]) σ M (fun σ2 M2 => tb ⟨S (i + 1), rt, nx, S (i + 1), xx⟩ σ2 M2) xx) (fin : ∀ σ M, S xs.length σ M → st M ∧ nx σ M) : ForQ (enumD xs) st g tb nx rt xx σ0 M0 := (by exact HA.Wq.get : @HA.Wq (ForQ (enumD xs) st g tb nx rt xx σ0 M0) (by
  refine ⟨S, h0, fun i x σ M hx v => ?_, fun σ M v => fin σ M (by rw [enumD_len] at v; exact v)⟩
  have hi : i < xs.length := by rw [← enumD_len]; exact (List.getElem?_eq_some_iff.mp hx).1
  obtain ⟨y, hy⟩ := get_lt hi
  rw [enumD_get hi, hy] at hx
  cases hx
  exact turn i y hy σ M v))
/-- zip of two lists made of the same length -/
theorem zip_map {α : Type} {f g : α → D} {l : List α} : zipD (l.map f) (l.map g) = l.map fun a => D.tup [f a, g a] := by
  simp [zipD, List.zipWith_map, List.zipWith_self]
theorem zip_ints {ns ms : List Int} : zipD (ns.map .int) (ms.map .int) = (List.zip ns ms).map fun p => tI [p.1, p.2] := by
  simp [zipD, List.zipWith_map, List.zip, List.map_zipWith]
  rfl
/-! ### xs.extend(a list or a tuple) -/
@[simp] def mExt : AM := fun x ys M Q => match x, ys with
  | .ref p, [.tup zs] => ∃ xs, M p = some (.lst xs) ∧ xs.length + zs.length ≤ sizeLine ∧ Q .non (mset M p (.lst (xs ++ zs)))
  | .ref p, [y] => ∃ xs zs, M p = some (.lst xs) ∧ LstAt M y zs ∧ xs.length + zs.length ≤ sizeLine ∧ Q .non (mset M p (.lst (xs ++ zs)))
  | _, _ => False
theorem mExt_ok {K : PySem.W.Frag} : OkMt K mExt (fun x vs H Q => rExtend x vs H Q ∨ rExtendT K x vs H Q) := fun G M H x xs xv vs Q R m rx ra h k => by
  unfold mExt at h
  split at h
  · obtain ⟨ys, h1, h3, h4⟩ := h
    obtain ⟨v, rfl, r⟩ := rpa1 ra
    cases rx
    obtain ⟨ws, t, e⟩ := cellL m h1
    obtain ⟨b, us, rfl, pb, tb⟩ := rp_tup r
    exact .inr ⟨_, b, ws, us, rfl, rfl, e, same_sqt m.same pb, by rw [← t.len, ← tb.len]; exact h3, Kv.wr m k h1 (t.app tb) .non h4⟩
  · obtain ⟨ys, zs, h1, h2, h3, h4⟩ := h
    obtain ⟨v, rfl, r⟩ := rpa1 ra
    cases rx
    obtain ⟨ws, t, e⟩ := cellL m h1
    refine lstAt m r h2 fun b us eb pb tb => ?_
    subst eb
    exact .inl ⟨_, b, ws, us, rfl, rfl, e, pb, by rw [← t.len, ← tb.len]; exact h3, Kv.wr m k h1 (t.app tb) .non h4⟩
  · exact h.elim
theorem mt_ext {X : Cx} : MtR X "list.extend" (fun x vs H Q => rExtend x vs H Q ∨ rExtendT X.K x vs H Q) := fun pins s σ H x xs v us Q I rx rv h => h.elim (mt_extend pins s σ H x xs v us Q I rx rv) (mt_extendT pins s σ H x xs v us Q I rx rv)
section
variable {X : Cx} {B : Hp} {W : WX} {e o : Expr} {ta : AE} {tas : AA} {apos cpos : Pos}
theorem qe_ext (ho : QE X B W o ta) (ha : QA X B W [e] tas)
    (hbase : attributeBase o "extend" X.env (eval o X.env) = eval o X.env := by rfl)
    (hfew : ((backTo cpos (starEach [e] X.env)).all (fun x => !x.1) && (backToKw cpos (keywordEach [] X.env)).all (fun x => x.1.isSome)
      && decide (([e] : List Expr).length + ([] : List Keyword).length + (if ([] : List Keyword).isEmpty then 0 else 1) < 30)) = true := by rfl)
    (hline : (apos.endLine == cpos.line) = true := by rfl) (hs : starEach [e] X.env = (false, eval e X.env) :: starEach [] X.env := by rfl) (hplain : (backTo cpos (starEach [] X.env)).any (·.1) = false := by rfl) :
    QE X B W (.Call (.Attribute o "extend" apos) [e] [] cpos) (aMt mExt ta tas) := qe_lm PySem.F.slot_list_extend PySem.F.type_list_extend mt_ext mExt_ok ho ha hbase hfew hline hs hplain
end
section
variable {M : Mem} {Q : DK} {p : Addr} {xs zs : List D}
theorem i_ext (hM : M p = some (.lst xs)) (hz : xs.length + zs.length ≤ sizeLine) (h : Q .non (mset M p (.lst (xs ++ zs)))) : mExt (.ref p) [.tup zs] M Q := ⟨xs, hM, hz, h⟩
theorem i_extI {ns : List Int} (hM : M p = some (.lst xs)) (hz : xs.length + ns.length ≤ sizeLine) (h : Q .non (mset M p (.lst (xs ++ ns.map .int)))) : mExt (.ref p) [tI ns] M Q := ⟨xs, hM, by simpa using hz, h⟩
theorem i_exlI {ns : List Int} (hM : M p = some (.lst xs)) (hz : xs.length + ns.length ≤ sizeLine) (h : Q .non (mset M p (.lst (xs ++ ns.map .int)))) : mExt (.ref p) [lI ns] M Q := ⟨xs, ns.map .int, hM, rfl, by simpa using hz, h⟩
end
/-! ### x is True, x is False -/
@[simp] def bIsB (neg : Bool) : A2 := fun x y M Q => match x, y with
  | .bl a, .bl b => Q (.bl (neg ^^ decide (a = b))) M
  | _, _ => False
theorem c_isB {X : Cx} : CmpOk X .Is (bIsB false) := ⟨_, op_isBl, fun G M H x y xv yv Q R m rx ry h k => by
  match x, y, h with
  | .bl a, .bl b, h => cases rx; cases ry; exact ⟨a, b, rfl, rfl, k _ _ (.here m (.bl _) (by simpa using h))⟩⟩
theorem c_isnotB {X : Cx} : CmpOk X .IsNot (bIsB true) := ⟨_, op_notBl, fun G M H x y xv yv Q R m rx ry h k => by
  match x, y, h with
  | .bl a, .bl b, h => cases rx; cases ry; exact ⟨a, b, rfl, rfl, k _ _ (.here m (.bl _) (by simpa using h))⟩⟩
theorem i_isBt {M : Mem} {Q : DK} {n a : Bool} (h : Q (.bl (n ^^ a)) M) : bIsB n (.bl a) (.bl true) M Q := by cases a <;> exact h
theorem i_isBf {M : Mem} {Q : DK} {n a : Bool} (h : Q (.bl (n ^^ !a)) M) : bIsB n (.bl a) (.bl false) M Q := by cases a <;> exact h
theorem i_tuplerI {M : Mem} {Q : DK} {p : Addr} {ns : List Int} (hp : M p = some (.lst (ns.map .int))) (h : Q (tI ns) M) : cTuple [.ref p] M Q := ⟨_, hp, h⟩
theorem i_fznr {M M' : Mem} {d : D} {k : D → Prop} (hr : ∀ a, d ≠ .ref a) (m : MLe M M') (h : k d) : fzD M M' d k := by
  cases d with
  | ref a => exact absurd rfl (hr a)
  | _ => exact ⟨m, h⟩
end HA
/-! A30: x(lambda: e), where x is a def that calls what it gets. -/
namespace HA
open PySem PySem.Spec PyProof.Rows L2
open LamX (CodeO TabB LamS lamEnv lamCx)
section
variable {X : Cx} {pins : List (Addr × Obj)} {st : L2.St} {H : Hp} {s : Shared}
/-- the thunk is made: only the table at P is written, at most one code object is new -/
theorem thunk_new {c P : Addr} {us : Array Value} {q : Str} {params : Arguments} {body : PySem.Expr} {scope : Scope} {pos : Pos} {E Q : Value → Shared → Prop}
    (I : Inv X pins st H s) (TB : TabB X.base X.mg c P) (hcode : X.env.code = .ref c) (hq : X.env.qual ++ "<lambda>" = q) (hP : H P = some (.tbl us)) (hu : TriplesOk us.toList)
    (hc : ∀ (p : Pos) (u : Value), codeAmong p us.toList = some u → ∃ d, u = .ref d ∧ H d = some (CodeO d q)) (hdf : defaultsOf params X.env = ([], [])) (hfr : ∀ y ∈ scope.names, y.2 = .free → ∃ c, X.env.cells.lookup y.1 = some c)
    (h : ∀ (f d : Addr) (pm ct : Value) (H1 : Hp) (s' : Shared) (us' : Array Value), Inv X pins st H1 s' → (∀ b o, H b = some o → b ≠ P → H1 b = some o) → H1 P = some (.tbl us') → TriplesOk us'.toList →
      (∀ (p : Pos) (u : Value), codeAmong p us'.toList = some u → codeAmong p us.toList = some u ∨ u = .ref d) → (H d = none ∨ H d = some (CodeO d q)) → H1 d = some (CodeO d q) →
      s'.heap.get? f = some (PySem.W.kla_obj "<lambda>" q params body scope (cloFrom X.env.cells scope.names []) pm d ct) → H1 f = none → f ∉ frs X.stack → Q (.ref f) s') :
    wpAny (model X.prog X.w) X.A (eval (.Lambda params body scope pos) X.env) Q E s := (by exact HA.Wq.get : @HA.Wq (wpAny (model X.prog X.w) X.A (eval (.Lambda params body scope pos) X.env) Q E s) (by
  subst hq
  have hbm : s.heap.BuiltinsAt X.mg P := TB.bm.keeps I.bk
  have oP : s.heap.get? P = some { cls := .none, data := .fields us } := I.hok P _ hP
  have fresh : ∀ f, s.heap.objs.size ≤ f → f ∉ frs X.stack := fun f hf hm => by
    rcases List.mem_cons.mp (I.stkSub _ hm) with k | k
    · have lt := I.lt
      rw [← k] at lt
      exact absurd lt (Nat.not_lt.mpr hf)
    · exact I.nofs hf k
  refine PySem.W.kla_eval hdf ?_
  cases hk : codeAmong pos us.toList with
  | some u =>
    obtain ⟨d, rfl, hd⟩ := hc pos u hk
    refine PySem.W.kla_makeFunctionHit (mg := X.mg) (c := c) (P := P) (ps := us) (closure_ok hfr) I.ok.glob (I.mod.glob.keeps I.bk) hcode (TB.code.keeps I.bk) oP hu hk hbm fun ct h2 tk keep hsz => ?_
    have J : Inv X pins st H { s with heap := h2.push (PySem.W.kla_obj "<lambda>" (X.env.qual ++ "<lambda>") params body scope (cloFrom X.env.cells scope.names []) ((X.mg "__name__").getD .none) d ct), toks := tk } := I.kept fun b o e => Heap.get?_push_of_some _ (keep b o e)
    exact h _ d _ ct H _ us J (fun b o e _ => e) hP hu (fun p u e => .inl e) (.inr hd) hd (Heap.get?_push_size _ rfl) (I.hok.fresh hsz) (fresh _ hsz)
  | none =>
    refine PySem.W.kla_makeFunction (mg := X.mg) (c := c) (P := P) (ps := us) (closure_ok hfr) I.ok.glob (I.mod.glob.keeps I.bk) hcode (TB.code.keeps I.bk) oP hu hk TB.gP hbm fun d ct h2 tk keep hge hlt hrec htab => ?_
    obtain ⟨d', oc, vs, t, e0, e1, e2, e3⟩ := hrec
    cases e0
    have hd : H d = none := I.hok.fresh hge
    have sz : s.heap.objs.size ≤ h2.objs.size := Nat.le_trans hge (Nat.le_of_lt hlt)
    have J := LamX.inv_table (q := X.env.qual ++ "<lambda>") (t' := tk) (more := #[rawInt pos.line, rawInt pos.col, .ref d])
      (h' := h2.push (PySem.W.kla_obj "<lambda>" (X.env.qual ++ "<lambda>") params body scope (cloFrom X.env.cells scope.names []) ((X.mg "__name__").getD .none) d ct)) I hP (fun b o hb e => Heap.get?_push_of_some _ (keep b o hb e)) (Heap.get?_push_of_some _ htab) hge ⟨oc, vs, t, Heap.get?_push_of_some _ e1, e2, e3⟩
    have nPd : P ≠ d := ne_of_none hP hd
    have el : (us ++ #[rawInt pos.line, rawInt pos.col, Value.ref d]).toList = us.toList ++ [rawInt pos.line, rawInt pos.col, .ref d] := by simp
    refine h _ d _ ct _ _ _ J (fun b o e hb => by rw [upd_ne (ne_of_none e hd), upd_ne hb]; exact e) (by rw [upd_ne nPd, upd_same]) (by rw [el]; exact PySem.TriplesOk_snoc _ _ _ _ hu) (fun p u e => ?_) (.inl hd) upd_same (Heap.get?_push_size _ rfl) ?_ (fresh _ sz)
    · rw [el] at e
      exact LamX.among_app _ hu e
    · rw [upd_ne (Nat.ne_of_gt hlt), upd_ne (Nat.ne_of_gt (Nat.lt_of_lt_of_le (Heap.lt_size oP) sz))]
      exact I.hok.fresh sz))
end
/-- the thunk f, called in the def that got it: it reads as e does over the maker's slots -/
def aAct (f : Addr) (σ : AS) (tb : AE) : AE := fun σZ M Q E => σZ[0]? = some (some (.ref f)) ∧ tb σ M Q (fun _ => E σZ)
/-- x(lambda: e): tH is how x reads -/
def aLam (P : Addr) (q : Str) (N : List Str) (tH : AE → ASt) (tb : AE) : AE := fun σ M Q E => M P = some (.tab q) ∧ ∀ f, M f = none → tH (aAct f σ tb) { nx := fun _ M' => Q .non M', rt := Q, xx := fun _ => E σ } (startA N [.ref f]) M
/-- the lambda's body reads so -/
def ThunkD (X : Cx) (scope : Scope) (k : Nat) (body : PySem.Expr) (tb : AE) : Prop := ∀ (A : Around) (outer : List Env) (s : Shared) (H : Hp) (E : XK) (f d : Addr) (B : Hp),
  Room k (lamCx X A outer s H E scope f d).A → (lamCx X A outer s H E scope f d).A.guards = some [] → Takes (lamCx X A outer s H E scope f d) (fun c dx _ H' => E c dx H') →
  QE (lamCx X A outer s H E scope f d) B (fun c dx _ H' => E c dx H') body tb
/-- the def x reads so over the reading of what it calls -/
def HeardD (P : Program) (w : World) (K : PySem.W.Frag) (mg : Str → Option Value) (base : Heap) (N : List Str) (x : Str) (st : Stmt) (f : Addr) (k : Nat) (a : Str) (tH : AE → ASt) : Prop :=
  ∀ cdv A outer s H E B W act, Room k (BX P w K mg base N x st f cdv A outer s H E).A → (BX P w K mg base N x st f cdv A outer s H E).A.guards = some [] → Takes (BX P w K mg base N x st f cdv A outer s H E) W → PassesOwn (model P w) (BX P w K mg base N x st f cdv A outer s H E).A (BX P w K mg base N x st f cdv A outer s H E).env (BX P w K mg base N x st f cdv A outer s H E).xe →
    (∀ B' W' pn xe p1 p2, Same B B' → Takes ((BX P w K mg base N x st f cdv A outer s H E).tr pn xe) W' → QE ((BX P w K mg base N x st f cdv A outer s H E).tr pn xe) B' W' (.Call (.Name a p1) [] [] p2) act) → QSs (BX P w K mg base N x st f cdv A outer s H E) B W (defBody st) (tH act)
structure CalT (P : Program) (w : World) (K : PySem.W.Frag) (mg : Str → Option Value) (base : Heap) (k : Nat) (x : Str) (st : Stmt) (N : List Str) (a : Str) (tH : AE → ASt) : Prop where
  ex : ∃ g fd, Fun K x x st g fd ∧ mg x = some (.ref g) ∧ HeardD P w K mg base N x st g k a tH
  S : FnScope N [a] (defScope st)
  hN : N[0]? = some a
  ha : Vis (defScope st) a
  h1 : (a == ("__debug__" : Str)) = false
  h2 : (a == ("__classdict__" : Str)) = false
  b : Bds x x st [a] 1 [] [0]
section
variable {X : Cx} {B : Hp} {W : WX}
/-- the call of the thunk -/
theorem qe_act {CXg : CXT} {Eg : XK} {Ng : List Str} {qg : Str} {sg : Scope} {g f d : Addr} {cdg pm ct : Value} {params : Arguments} {body : PySem.Expr} {scope : Scope} {k : Nat} {a : Str} {pn : List (Addr × Obj)} {xe : Value → Shared → Prop} {BZ : Hp} {WZ : WX} {tb : AE} {p1 p2 : Pos}
    {pins : List (Addr × Obj)} {st : L2.St} {H : Hp} {s : Shared} {σ : AS} {M : Mem} (I : Inv X pins st H s) (L : LamS X.env.scope scope) (hf : s.heap.get? f = some (PySem.W.kla_obj "<lambda>" (X.env.qual ++ "<lambda>") params body scope (cloFrom X.env.cells scope.names []) pm d ct)) (hfn : H f = none) (hfr : f ∉ frs X.stack)
    (ssB : SS X.K BZ BZ σ M st H) (hd : BZ d = some (CodeO d (X.env.qual ++ "<lambda>")))
    (hbind : bindArgs (PySem.W.kla_fn "<lambda>" (X.env.qual ++ "<lambda>") params body scope (cloFrom X.env.cells scope.names []) pm (.ref d) ct) ⟨[], []⟩ = pure [])
    (tk : Takes ((cxOf CXg X.prog X.w X.K X.mg X.base Ng qg sg g cdg X.A X.stack s H Eg).tr pn xe) WZ) (hr : Room (k + 1) (X.A.deeper (envOfC qg sg s.heap.objs.size g cdg))) (hg : X.A.guards = some [])
    (hbody : ThunkD X scope k body tb) (hN : Ng[0]? = some a) (hv : Vis sg a) {B' : Hp} (sb : Same BZ B') (h1 : (a == ("__debug__" : Str)) = false) (h2 : (a == ("__classdict__" : Str)) = false) :
    QE ((cxOf CXg X.prog X.w X.K X.mg X.base Ng qg sg g cdg X.A X.stack s H Eg).tr pn xe) B' WZ (.Call (.Name a p1) [] [] p2) (aAct f σ tb) := (by exact HA.Wq.get : @HA.Wq (QE ((cxOf CXg X.prog X.w X.K X.mg X.base Ng qg sg g cdg X.A X.stack s H Eg).tr pn xe) B' WZ (.Call (.Name a p1) [] [] p2) (aAct f σ tb)) (by
  refine ⟨fun pinsZ sZ stZ HZ R IZ ⟨GZ, σZ, MZ, Q, E, ss, ⟨h0, hb⟩, kq, kx⟩ => ?_⟩
  obtain ⟨v0, e0, r0⟩ := ss.sl 0 _ h0
  cases r0
  have hco : HZ d = some (CodeO d (X.env.qual ++ "<lambda>")) := ss.mem.same _ _ (ss.base _ _ (sb _ _ hd))
  refine wpAny_Call_Name_kw (thn ((pe_var (pos := p1) (i := 0) hN hv h1 h2).run pinsZ sZ stZ HZ (fun v H1 => v = .ref f ∧ H1 = HZ) IZ ⟨.ref f, e0, rfl, rfl⟩) fun u s1 ⟨v, H1, J, rv, ev, eH⟩ => ?_)
  subst ev eH
  obtain rfl : u = Value.ref f := rv
  have fat := J.base.keep f _ hf hfn hfr (fun z => nomatch (show f ∈ ([] : List Addr) from z))
  refine PySem.W.callWith_F0 ⟨_, _, _, _, fat⟩ ?_
  have un : Un (frs X.stack) [] H H1 s.heap s1.heap := J.base
  obtain ⟨⟨oc, vs, t, c1, c2, c3⟩, _, _⟩ := J.hok d _ hco
  have run : codeAny (model X.prog X.w) (X.A.deeper (envOfC qg sg s.heap.objs.size g cdg)) (.call (.ref f) ⟨[], []⟩) (CR (L2.CX X.prog X.w) (envOfC qg sg s.heap.objs.size g cdg :: X.stack) X.prog X.w H1 s1 (Kv X.K GZ Q) (Kx X.K GZ (E σZ))) s1 := by
    refine PySem.W.kla_callFunE hr.depth fat rfl L.co L.gen rfl ⟨d, oc, vs, t, rfl, c1, c2, c3⟩ ?_
    rw [hbind]
    refine wpAny_pure (wpAny_newFunctionEnv (fun y hy => (L.own y hy).2) (fun y hy => absurd hy (by simp)) (fun h₁ hns hsb => ⟨J.nolimit.fresh _ hsb, ?_⟩) L.kind)
    have kp : ∀ b o, s1.heap.get? b = some o → h₁.get? b = some o := fun b o e => hsb.extBut b o (Nat.ne_of_lt (Heap.lt_size e)) (Heap.get?_push_of_some _ e)
    have JL : Inv (lamCx X (X.A.deeper (envOfC qg sg s.heap.objs.size g cdg)) (envOfC qg sg s.heap.objs.size g cdg :: X.stack) s1 H1 (Kx X.K GZ (E σZ)) scope f d) [] st H1 { s1 with heap := h₁, toks := s1.toks + ([] : List (Str × Value)).length } :=
      LamX.lam_start2 I L J.env0 hr.hd un hns kp
    have q := hbody (X.A.deeper (envOfC qg sg s.heap.objs.size g cdg)) (envOfC qg sg s.heap.objs.size g cdg :: X.stack) s1 H1 (Kx X.K GZ (E σZ)) f d GZ (hr.deeper _) hg (takes_of rfl rfl rfl rfl)
    have sl : SS X.K GZ GZ σ MZ st H1 := ⟨Same.refl _, ss.mem, ssB.len, fun i d hd => let ⟨v, a1, a2⟩ := ssB.sl i d hd; ⟨v, a1, a2.up (sb.trans ss.base)⟩⟩
    refine PySem.W.kla_codeExpr (wpAny_mono (q.run [] _ _ H1 (Kv X.K GZ Q) JL ⟨GZ, σ, MZ, Q, fun _ => E σZ, sl, hb, fun v H' kv => kv, fun c dx s' H' ⟨C, fs, a, vs, σ', M', G', z1, z2, z3, z4, z5, z6⟩ => ⟨C, fs, a, vs, M', G', z1, z2, z3.base, z3.mem, z4, z5, z6⟩⟩) (fun v s' hq => ?_) fun e s' hq => hq)
    obtain ⟨w', H', J', rv, q⟩ := hq
    exact ⟨w', H', J'.os, J'.bare, J'.base, J'.hok, rv, q⟩
  refine wpAny_call (codeAny_mono run fun r s' hq => ?_)
  cases r with
  | error e => exact tk e s' (XE.of_call J (fun cls dx H' hk => kx _ _ _ _ (Wx.of ss hk)) hq)
  | ok fl =>
    cases fl with
    | ret u =>
      obtain ⟨v, H', I', rv, q⟩ := J.after hq
      exact ⟨v, H', I', rv, kq v H' q⟩
    | next => exact False.elim hq
    | brk => exact False.elim hq
    | cont => exact False.elim hq))
theorem cok_noext {K : PySem.W.Frag} {G H : Hp} {a d : Addr} {q : Str} {c : Cell} (h : COk K G H a c) : H a ≠ some (LamX.CodeO d q) := fun z => by
  unfold LamX.CodeO at z
  cases c with
  | lst xs => obtain ⟨vs, r, e⟩ := h; rw [z] at e; cases e
  | ins C fs => obtain ⟨dx, vs, r, e⟩ := h; rw [z] at e; cases e
  | deal l => obtain ⟨n, r, e⟩ := h; rw [z] at e; cases e
  | pool => obtain ⟨ns, r1, r2, e⟩ := h; rw [z] at e; cases e
  | tab q => obtain ⟨us, e, r⟩ := h; rw [z] at e; cases e
  | rng lo hi => have e : H a = _ := h; rw [z] at e; cases e
  | set S n => have e : H a = _ := h; rw [z] at e; cases e
  | dic kvs => obtain ⟨vs, r, e⟩ := h; rw [z] at e; cases e
  | dtp kvs => obtain ⟨vs, r, e⟩ := h; rw [z] at e; cases e
theorem qe_lam {c P : Addr} {q x a : Str} {j k : Nat} {sd : Stmt} {N : List Str} {tH : AE → ASt} {params : Arguments} {body : PySem.Expr} {scope : Scope} {p lpos pos : Pos} {tb : AE}
    (C : CalT X.prog X.w X.K X.mg X.base j x sd N a tH) (hj : j ≤ k + 1) (hr : Room (k + 2) X.A) (hg : X.A.guards = some []) (tk : Takes X W) (TB : TabB X.base X.mg c P) (hcode : X.env.code = .ref c) (hq : X.env.qual ++ "<lambda>" = q) (L : LamS X.env.scope scope)
    (hbody : ThunkD X scope k body tb) (hgl : Gl X x := by rfl) (hdf : defaultsOf params X.env = ([], []) := by rfl) (hbind : ∀ (q : Str) (cl : List (Str × Addr)) (pm cv ctv : Value), bindArgs (PySem.W.kla_fn "<lambda>" q params body scope cl pm cv ctv) ⟨[], []⟩ = pure [] := by intros; rfl)
    (hdb : (x == ("__debug__" : Str)) = false := by decide) : QE X B W (.Call (.Name x p) [.Lambda params body scope lpos] [] pos) (aLam P q N tH tb) := by
  refine ⟨fun pins s st H R I ⟨G, σ, M, Q, E, ss, ⟨hM, h⟩, kq, kx⟩ => ?_⟩
  obtain ⟨g, fd, hF, hm, hD⟩ := C.ex
  obtain ⟨gP, us, hP, hu, hc⟩ := ss.mem.cell P _ hM
  refine wpAny_Call_Name_kw (ld_glob I hgl hm ?_ hdb)
  refine PySem.W.callWith_K (h₀ := X.base) I.ok.mod.kin hF.kp ?_ (by rfl) (by rfl)
  show wpAny _ _ (spliced ((false, eval (.Lambda params body scope lpos) X.env) :: backTo pos (starEach [] X.env))) _ _ s
  refine Calls.spliced_cons (thunk_new I TB hcode hq hP hu (fun p u e => let ⟨c, e1, e2⟩ := hc p u e; ⟨c, e1, ss.mem.same _ _ e2⟩) hdf (L.has I.ok) fun f d pm ct H1 s' us' I1 eN hP1 hu1 hc1 hd0 hd1 hf hfn hfr => ?_)
  refine Calls.spliced_nil ⟨I1.kIn, ?_⟩
  subst hq
  have sG : Same G (upd G d (CodeO d (X.env.qual ++ "<lambda>"))) := fun b o e => by
    by_cases hb : b = d
    · subst hb
      have z := ss.mem.same _ _ e
      rw [upd_same]
      rcases hd0 with k | k
      · rw [k] at z; cases z
      · rw [k] at z; exact z
    · rw [upd_ne hb]; exact e
  have sH : Same (upd G d (CodeO d (X.env.qual ++ "<lambda>"))) H1 := fun b o e => by
    by_cases hb : b = d
    · subst hb; rw [upd_same] at e; rw [hd1]; exact e
    · rw [upd_ne hb] at e
      exact eN b o (ss.mem.same _ _ e) fun z => by rw [z, gP] at e; cases e
  have mem : SM X.K (upd G d (CodeO d (X.env.qual ++ "<lambda>"))) M H1 := ⟨sH, fun b cl e => by
    obtain ⟨k1, k2⟩ := ss.mem.cell b cl e
    have hb : b ≠ d := fun z => by
      subst z
      obtain ⟨o, ho⟩ := k2.some
      rcases hd0 with k | k
      · rw [k] at ho; cases ho
      · exact cok_noext k2 k
    refine ⟨by rw [upd_ne hb]; exact k1, ?_⟩
    by_cases hbP : b = P
    · subst hbP
      rw [hM] at e
      cases e
      refine ⟨us', hP1, hu1, fun p u hu => ?_⟩
      rcases hc1 p u hu with k | k
      · obtain ⟨e', a1, a2⟩ := hc p u k
        exact ⟨e', a1, sG _ _ a2⟩
      · exact ⟨d, k, upd_same⟩
    · obtain ⟨o, ho⟩ := k2.some
      exact k2.up sG ((eN b o ho hbP).trans ho.symm)⟩
  have ss1 := ss.with sG mem
  have ssB : SS X.K (upd G d (CodeO d (X.env.qual ++ "<lambda>"))) (upd G d (CodeO d (X.env.qual ++ "<lambda>"))) σ M st H1 := ⟨Same.refl _, mem, ss1.len, ss1.sl⟩
  have bn := C.b.of hF
  obtain ⟨oc, od, kV, doc, pm', an, cdv, ct', osl, rfl, lk, hcd⟩ := hF.ex
  have rc : codeAny (model X.prog X.w) X.A (.call (.ref g) ⟨[.ref f], []⟩) (CR (L2.CX X.prog X.w) X.stack X.prog X.w H1 s' (Kv X.K (upd G d (CodeO d (X.env.qual ++ "<lambda>"))) Q) (Kx X.K (upd G d (CodeO d (X.env.qual ++ "<lambda>"))) (E σ))) s' := by
    have e0 := I1.env0
    have inK : X.K.In s'.heap := e0.mod.kin.keeps fun b o z => (e0.bs b o z).1
    have nol : s'.heap.NoLimit := e0.mod.nolimit.keeps fun b o z => (e0.bs b o z).1
    have kinds : ∀ y ∈ [a].zip [Value.ref f], (defScope sd).names.lookup y.1 = some .local ∨ ((defScope sd).names.lookup y.1 = some .cell ∧ ((cellsFrom (s'.heap.objs.size + 1) (defScope sd).names []).lookup y.1).isSome = true) := by
      rintro ⟨y, v⟩ hy
      exact (C.S.par y (List.of_mem_zip hy).1).imp id fun z => ⟨z, PySem.W.cellsFrom_some _ _ _ (.inl z)⟩
    have hbd : BindsTo s' (PySem.W.fnOf x x (defArgs sd) (defBody sd) (defScope sd) .none kV doc pm' an cdv ct') ⟨[Value.ref f], []⟩ ([a].zip [Value.ref f]) := .of_eq (bn [Value.ref f] [] rfl rfl)
    refine codeAny_call_function hr.depth (inK _ _ lk) rfl C.S.co C.S.gen rfl (PySem.W.codeRec_of inK hcd) (hbd _ _ _ _ (wpAny_newFunctionEnv_cells C.S.kind kinds fun env ee s1 xx => ?_))
    subst ee
    refine ⟨nol.keeps xx.toInCall.keep, codeAny_func ?_⟩
    have J := inv_start (CX := L2.CX X.prog X.w) (P := X.prog) (w := X.w) (K := X.K) (mg := X.mg) (base := X.base) (cd := cdv) (E := Kx X.K (upd G d (CodeO d (X.env.qual ++ "<lambda>"))) (E σ)) (vs := [V.ref f]) C.S hr.hd e0 rfl (.cons rfl .nil) xx
    have tk1 := takes_of (X := BX X.prog X.w X.K X.mg X.base N x sd g cdv X.A X.stack s' H1 (Kx X.K (upd G d (CodeO d (X.env.qual ++ "<lambda>"))) (E σ))) (E := Kx X.K (upd G d (CodeO d (X.env.qual ++ "<lambda>"))) (E σ)) rfl rfl rfl rfl
    have hr1 := hr.deeper (envOfC x (defScope sd) s'.heap.objs.size g cdv)
    have qb := hD cdv X.A X.stack s' H1 (Kx X.K (upd G d (CodeO d (X.env.qual ++ "<lambda>"))) (E σ)) (upd G d (CodeO d (X.env.qual ++ "<lambda>"))) _ (aAct f σ tb) (hr1.mono hj) hg tk1 (passes_of rfl)
      fun B' W' pn xe p1 p2 sb tk2 => qe_act I1 L hf hfn hfr ssB upd_same (hbind _ _ _ _ _) tk2 hr1 hg hbody C.hN C.ha sb C.h1 C.h2
    have e0l : (startA N [D.ref f]).length = (L2.start N [V.ref f]).length := by simp [startA, L2.start]
    have s0 : SS X.K (upd G d (CodeO d (X.env.qual ++ "<lambda>"))) (upd G d (CodeO d (X.env.qual ++ "<lambda>"))) (startA N [.ref f]) M (L2.start N [V.ref f]) H1 := ⟨Same.refl _, mem, e0l, fun i dd hd => by
      unfold startA at hd
      unfold L2.start
      cases i with
      | zero => cases hd; exact ⟨_, rfl, .ref f⟩
      | succ i =>
        rw [List.getElem?_append_right (by simp), List.getElem?_replicate] at hd
        split at hd <;> cases hd⟩
    have fin : ∀ {σ' : L2.St} {H' : Hp} {s2 : Shared} {v : V} {u : Value}, Inv (BX X.prog X.w X.K X.mg X.base N x sd g cdv X.A X.stack s' H1 (Kx X.K (upd G d (CodeO d (X.env.qual ++ "<lambda>"))) (E σ))) [] σ' H' s2 → RelV v u → Kv X.K (upd G d (CodeO d (X.env.qual ++ "<lambda>"))) Q v H' → CE X.stack X.prog X.w H1 s' (Kv X.K (upd G d (CodeO d (X.env.qual ++ "<lambda>"))) Q) u s2 := fun J rv q => ⟨_, _, J.os, J.bare, J.base, J.hok, rv, q⟩
    refine wpAny_mono (qb.run [] s1 (L2.start N [V.ref f]) H1 { nx := fun _ H' => Kv X.K _ Q .non H', rt := Kv X.K _ Q } J ⟨_, _, M, _, s0, h f (mem.free hfn).2, fun s' H' σ' M' G' e' ss' q => ⟨.non, M', G', e', ss'.mem, .non, q⟩, fun v H' kv => kv, fun _ _ _ _ _ _ _ z => z, fun _ _ _ _ _ _ _ z => z, fun c d s' H' ⟨C, fs, a, vs, σ, M, G', e1, e2, s5, h1, h2, q⟩ => ⟨C, fs, a, vs, M, G', e1, e2, s5.base, s5.mem, h1, h2, q⟩⟩)
      (fun fl s2 hs' => ?_) fun e s2 hs' => hs'
    cases fl with
    | ret u => obtain ⟨v, σ', H', J, rv, q⟩ := hs'; exact fin J rv q
    | next => obtain ⟨σ', H', J, q⟩ := hs'; exact fin (v := .non) (u := .none) J rfl q
    | brk => obtain ⟨_, _, _, z⟩ := hs'; exact z.elim
    | cont => obtain ⟨_, _, _, z⟩ := hs'; exact z.elim
  refine wpAny_call (codeAny_mono rc fun r s2 hq => ?_)
  cases r with
  | error e => exact tk e s2 (XE.of_call I1 (fun cls dx H' hk => kx _ _ _ _ (Wx.of ss1 hk)) hq)
  | ok fl =>
    cases fl with
    | ret u =>
      obtain ⟨v, H', I', rv, q⟩ := I1.after hq
      exact ⟨v, H', I', rv, kq v H' (q.lift sG)⟩
    | next => exact False.elim hq
    | brk => exact False.elim hq
    | cont => exact False.elim hq
end
theorem un64 {k : Nat} {A : Around} (h : Room k A) : A.units + 64 < cLine := by have := h.un; omega
theorem i_lam {z : Wd} {i : Nat} {N : List Str} {tH : AE → ASt} {tb : AE} {σ : AS} {M : Mem} {Q : DK} {E : AXs} (hT : TabM z M) (h : ∀ f, M f = none → tH (aAct f σ tb) { nx := fun _ M' => Q .non M', rt := Q, xx := fun _ => E σ } (startA N [.ref f]) M) : aLam (z.T i).1 (z.T i).2 N tH tb σ M Q E := ⟨hT i, h⟩
theorem i_act {f : Addr} {σ σZ : AS} {tb : AE} {M : Mem} {Q : DK} {E : AXs} (h0 : σZ[0]? = some (some (.ref f))) (h : tb σ M Q (fun _ => E σZ)) : aAct f σ tb σZ M Q E := ⟨h0, h⟩
end HA
/-! A31: the end where the law's text makes thunks. -/
namespace HA
open PySem PySem.Spec L2
open LamX (TabB)
section
variable {P : Program} {w : World} {K : PySem.W.Frag} {mg mb : Str → Option Value} {k : Nat} {fa a : Addr} {fd : FuncData} {x : Str} {sp : ASp} {s₁ : Shared} {vs : List Value} {ns : List Int}
/-- the memory at the law's start: the tables alone -/
def tabMem (cs : List (Addr × Addr × Str)) : Mem := fun b => ((cs.find? fun p => p.2.1 == b).map fun p => Cell.tab p.2.2)
theorem tabMem_some {cs : List (Addr × Addr × Str)} {b : Addr} {c : Cell} (h : tabMem cs b = some c) : ∃ p ∈ cs, p.2.1 = b ∧ c = .tab p.2.2 := (by exact HA.Wq.get : @HA.Wq (∃ p ∈ cs, p.2.1 = b ∧ c = .tab p.2.2) (by
  unfold tabMem at h
  cases e : cs.find? fun p => p.2.1 == b with
  | none => rw [e] at h; cases h
  | some p =>
    rw [e] at h
    cases h
    exact ⟨p, List.mem_of_find?_eq_some e, beq_iff_eq.mp (List.find?_some (p := fun p : Addr × Addr × Str => p.2.1 == b) e), rfl⟩))
/-- the law's call over H: at most the script, and the tables -/
theorem endT_core {cs : List (Addr × Addr × Str)} {G H : Hp} (KX : K.In s₁.heap) (hns : s₁.heap.Ns mainGlobals mg) (hb : s₁.heap.Ns builtinsNs mb) (hbb : ∀ x : Str, x ≠ "__name__" → mb x = bootBuiltins x) (hlim : s₁.heap.NoLimit) (hg : s₁.gens = #[])
    (hT : ∀ p ∈ cs, s₁.heap.get? p.2.1 = some { cls := .none, data := .fields #[] }) (nT : ∀ p ∈ cs, K.lookup p.2.1 = none) (hC : ∀ p ∈ cs, PySem.W.CodeHd s₁.heap p.1 p.2.1)
    (hbm : ∃ (bm : Addr) (ob : Obj), mg "__builtins__" = some (.ref bm) ∧ bm ≠ builtinsNs ∧ s₁.heap.get? bm = some ob ∧ ob.cls = .type "module" ∧ ob.dict = some builtinsNs ∧ ob.data = .plain)
    (ha : s₁.heap.get? a = some { cls := .type "list", data := .seq vs.toArray }) (hr : Room k callerA)
    (F : ∀ base : Heap, K.In base → base.Ns mainGlobals mg → (∀ p ∈ cs, TabB base mg p.1 p.2.1) → FA P w K mg base k fa fd [x] sp) (hbind : ∀ (s : Shared) (u : Value), BindsTo s fd ⟨[u], []⟩ [(x, u)])
    (hsp : sp [.frz (ns.map D.int)] (tabMem cs) (fun v _ => v = .bl true) (fun _ _ _ => False))
    (hS : SqL K G a (ns.map V.int)) (hGH : Same G H) (hGT : ∀ p ∈ cs, G p.2.1 = none) (hHT : ∀ p ∈ cs, H p.2.1 = some (.tbl #[])) (ok : HOk P w H s₁.heap)
    (hA : ∀ b o, H b = some o → (b = a ∧ K.lookup a = none ∧ ∃ ob, s₁.heap.get? a = some ob ∧ ∃ u, o = .frz ob u) ∨ ∃ p ∈ cs, p.2.1 = b) :
    codeAny (model P w) callerA (.call (.ref fa) ⟨[.ref a], []⟩) (fun r s' => r = .ok (.ret (.bool true)) ∧ OldK s₁.heap s'.heap ∧ s'.os = s₁.os ∧ PyProof.Rows.AllBare s'.gens) s₁ := by
  -- what is neither the script nor a table is not tracked
  have other : ∀ {b : Addr} {o : Obj}, s₁.heap.get? b = some o → (∀ vs n, o.data ≠ .seq vs n) → o.data ≠ .fields #[] → H b = none := fun {b o} e h1 h2 => by
    cases q : H b with
    | none => rfl
    | some u =>
      rcases hA b u q with ⟨rfl, _, _⟩ | ⟨p, hp, rfl⟩
      · rw [ha] at e; cases e; exact (h1 _ _ rfl).elim
      · rw [hT p hp] at e; cases e; exact (h2 rfl).elim
  have dict : ∀ {b : Addr} {o : Obj} {es : Array DictEntry} {ep : Nat}, s₁.heap.get? b = some o → o.data = .dict es ep → H b = none := fun {b o es ep} e d => other e (fun _ _ z => by rw [d] at z; cases z) fun z => by rw [d] at z; cases z
  have keepNs : ∀ {b : Addr} {m : Str → Option Value}, s₁.heap.Ns b m → (hidT s₁.heap H).Ns b m := fun {b m} ⟨o, es, ep, e, d, r⟩ => ⟨o, es, ep, hidT_get e (dict e d), d, r⟩
  have keepK : K.In (hidT s₁.heap H) := fun b o e => hidT_get (KX b o e) (by
    cases q : H b with
    | none => rfl
    | some u =>
      rcases hA b u q with ⟨rfl, h2, _⟩ | ⟨p, hp, rfl⟩
      · rw [h2] at e; cases e
      · rw [nT p hp] at e; cases e)
  have modOk : Mod K mg (hidT s₁.heap H) := ⟨keepK, keepNs hns, ⟨mb, keepNs hb, hbb⟩, hlim.imp fun mc z => ⟨keepNs z.1, z.2⟩⟩
  have tabs : ∀ p ∈ cs, TabB (hidT s₁.heap H) mg p.1 p.2.1 := fun p hp => by
    obtain ⟨og, eg, pg, g1, g2, _⟩ := hns
    refine ⟨?_, ?_, fun z => by rw [z, hT p hp] at g1; cases g1; cases g2⟩
    · obtain ⟨o, us, file, tf, flags, tg, inF, text, tt, e1, r1, r2, r3, r⟩ := hC p hp
      exact ⟨o, us, file, tf, flags, tg, inF, text, tt, hidT_get e1 (other e1 (fun _ _ z => by rw [r2] at z; cases z) fun z => by rw [r2] at z; cases z; simp at r3), r1, r2, r3, r⟩
    · obtain ⟨bm, ob, b1, b2, b3, b4, b5, b6⟩ := hbm
      refine ⟨bm, ob, b1, b2, fun q => ?_, fun q => ?_, hidT_get b3 (other b3 (fun _ _ z => by rw [b6] at z; cases z) fun z => by rw [b6] at z; cases z), b4, b5, b6⟩
      · rw [q, g1] at b3; cases b3; rw [g2] at b6; cases b6
      · rw [q, hT p hp] at b3; cases b3; cases b6
  have env : Env0 P w K mg (hidT s₁.heap H) callerA [] s₁ H := ⟨rfl, modOk, fun b o e => of_hidT e, Nat.le_of_eq (hidT_size _ _), trivial, fun b z => absurd (show b ∈ ([] : List Addr) from z) (by simp), ok, .of_eq hg⟩
  have mem : SM K G (tabMem cs) H := ⟨hGH, fun b c e => by
    obtain ⟨p, hp, rfl, rfl⟩ := tabMem_some e
    exact ⟨hGT p hp, #[], hHT p hp, True.intro, fun _ u hu => by simp [codeAmong] at hu⟩⟩
  refine codeAny_mono ((F _ keepK (keepNs hns) tabs).run callerA [] s₁ H ⟨[.ref a], []⟩ [.ref a] [.ref a] _ G _ _ _ hr rfl env (hbind s₁ (.ref a)) (.cons rfl .nil) mem (.cons (.frz hS (.ints ns)) .nil) hsp) fun r s' h => ?_
  cases r with
  | error e =>
    obtain ⟨_, _, _, _, _, _, _, _, _, _, _, _, z⟩ := h
    obtain ⟨_, _, _, _, _, _, _, _, _, _, _, _, z⟩ := z
    exact z.elim
  | ok fl =>
    cases fl with
    | next => exact h.elim
    | brk => exact h.elim
    | cont => exact h.elim
    | ret u =>
      obtain ⟨v, H', os, bare, un, ok', r', d, M', G', _, _, rd, q⟩ := h
      subst q
      cases rd
      obtain rfl : u = Value.bool true := r'
      have more : ∀ p ∈ cs, ∃ us : Array Value, s'.heap.get? p.2.1 = some { cls := .none, data := .fields us } := fun p hp => let ⟨us, e⟩ := un.tbls p.2.1 #[] (hHT p hp); ⟨_, ok' _ _ e⟩
      have kept : ∀ b o, (∀ p ∈ cs, p.2.1 ≠ b) → s₁.heap.get? b = some o → s'.heap.get? b = some o := fun b o nb e => by
        cases q : H b with
        | none => exact un.keep b o e q (fun z => absurd (show b ∈ ([] : List Addr) from z) (by simp)) (by simp)
        | some u =>
          rcases hA b u q with ⟨rfl, _, ob, e0, u', rfl⟩ | ⟨p, hp, e2⟩
          · rw [e] at e0
            cases e0
            exact (ok' _ _ (un.frzs _ _ _ q)).1
          · exact absurd e2 (nb p hp)
      refine ⟨rfl, ⟨fun b o e => ?_, fun b o e => ?_⟩, os, bare⟩
      · by_cases hb : ∃ p ∈ cs, p.2.1 = b
        · obtain ⟨p, hp, rfl⟩ := hb
          obtain ⟨us, hu⟩ := more p hp
          rw [hT p hp] at e
          cases e
          exact .inr (.inl ⟨((hC p hp).tab (hT p hp)).isCodeTable, rfl, #[], us, rfl, by rw [Array.empty_append]; exact hu⟩)
        · exact .inl (kept b o (fun p hp z => hb ⟨p, hp, z⟩) e)
      · by_cases hb : ∃ p ∈ cs, p.2.1 = b
        · obtain ⟨p, hp, rfl⟩ := hb
          obtain ⟨us, hu⟩ := more p hp
          exact ⟨_, hu⟩
        · exact ⟨o, kept b o (fun p hp z => hb ⟨p, hp, z⟩) e⟩
theorem endT_call {cs : List (Addr × Addr × Str)} (KX : K.In s₁.heap) (hns : s₁.heap.Ns mainGlobals mg) (hb : s₁.heap.Ns builtinsNs mb) (hbb : ∀ x : Str, x ≠ "__name__" → mb x = bootBuiltins x) (hlim : s₁.heap.NoLimit) (hg : s₁.gens = #[])
    (hT : ∀ p ∈ cs, s₁.heap.get? p.2.1 = some { cls := .none, data := .fields #[] }) (nT : ∀ p ∈ cs, K.lookup p.2.1 = none) (hC : ∀ p ∈ cs, PySem.W.CodeHd s₁.heap p.1 p.2.1)
    (hbm : ∃ (bm : Addr) (ob : Obj), mg "__builtins__" = some (.ref bm) ∧ bm ≠ builtinsNs ∧ s₁.heap.get? bm = some ob ∧ ob.cls = .type "module" ∧ ob.dict = some builtinsNs ∧ ob.data = .plain)
    (ha : s₁.heap.get? a = some { cls := .type "list", data := .seq vs.toArray }) (hi : PyProof.Rows.IntsAre vs ns) (hl : ns.length ≤ sizeLine) (hr : Room k callerA)
    (F : ∀ base : Heap, K.In base → base.Ns mainGlobals mg → (∀ p ∈ cs, TabB base mg p.1 p.2.1) → FA P w K mg base k fa fd [x] sp) (hbind : ∀ (s : Shared) (u : Value), BindsTo s fd ⟨[u], []⟩ [(x, u)])
    (hsp : sp [.frz (ns.map D.int)] (tabMem cs) (fun v _ => v = .bl true) (fun _ _ _ => False)) :
    codeAny (model P w) callerA (.call (.ref fa) ⟨[.ref a], []⟩) (fun r s' => r = .ok (.ret (.bool true)) ∧ OldK s₁.heap s'.heap ∧ s'.os = s₁.os ∧ PyProof.Rows.AllBare s'.gens) s₁ := by
  have rv := vals_ints hi
  have lenV := hi.length
  have na : ∀ p ∈ cs, p.2.1 ≠ a := fun p hp z => by
    have e := hT p hp
    rw [z, ha] at e
    have e2 : Data.seq vs.toArray _ = Data.fields #[] := congrArg Obj.data (Option.some.inj e)
    cases e2
  have tb : ∀ {b : Addr}, (∃ p ∈ cs, p.2.1 = b) → s₁.heap.get? b = some { cls := .none, data := .fields #[] } := fun ⟨p, hp, e⟩ => by rw [← e]; exact hT p hp
  classical
  cases hk : K.lookup a with
  | some o =>
    have e := KX a o hk
    rw [ha] at e
    cases e
    refine endT_core (G := fun _ => none) (H := fun b => if ∃ p ∈ cs, p.2.1 = b then some (.tbl #[]) else none) KX hns hb hbb hlim hg hT nT hC hbm ha hr F hbind hsp (.inr ⟨_, vs.toArray, _, hk, rfl, rfl, rfl, ?_, by simpa using rv⟩) (fun b u z => by cases z) (fun _ _ => rfl) (fun p hp => if_pos ⟨p, hp, rfl⟩) (fun b u z => ?_) fun b u z => ?_
    · rw [List.size_toArray, lenV]; exact hl
    · by_cases hq : ∃ p ∈ cs, p.2.1 = b
      · have z' := (if_pos hq).symm.trans z
        cases z'
        exact tb hq
      · cases (if_neg hq).symm.trans z
    · by_cases hq : ∃ p ∈ cs, p.2.1 = b
      · exact .inr hq
      · cases (if_neg hq).symm.trans z
  | none =>
    let ob : Obj := { cls := .type "list", data := .seq vs.toArray }
    refine endT_core (G := fun b => if b = a then some (.frz ob (.lst (ns.map V.int))) else none) (H := fun b => if b = a then some (.frz ob (.lst (ns.map V.int))) else if ∃ p ∈ cs, p.2.1 = b then some (.tbl #[]) else none) KX hns hb hbb hlim hg hT nT hC hbm ha hr F hbind hsp
      (.inl (.inr ⟨ob, if_pos rfl⟩)) (fun b u z => ?_) (fun p hp => if_neg (na p hp)) (fun p hp => (if_neg (na p hp)).trans (if_pos ⟨p, hp, rfl⟩)) (fun b u z => ?_) fun b u z => ?_
    · by_cases hb : b = a
      · exact (if_pos hb).trans ((if_pos hb).symm.trans z)
      · cases (if_neg hb).symm.trans z
    · by_cases hb : b = a
      · subst hb
        have z' := (if_pos rfl).symm.trans z
        cases z'
        exact ⟨ha, by rw [List.length_map]; exact hl, vs, _, rv, ha⟩
      · have z1 := (if_neg hb).symm.trans z
        by_cases hq : ∃ p ∈ cs, p.2.1 = b
        · have z' := (if_pos hq).symm.trans z1
          cases z'
          exact tb hq
        · cases (if_neg hq).symm.trans z1
    · by_cases hb : b = a
      · subst hb
        have z' := (if_pos rfl).symm.trans z
        cases z'
        exact .inl ⟨rfl, hk, ob, ha, _, rfl⟩
      · have z1 := (if_neg hb).symm.trans z
        by_cases hq : ∃ p ∈ cs, p.2.1 = b
        · exact .inr hq
        · cases (if_neg hq).symm.trans z1
end
/-- what a law promises that makes thunks -/
def spLawT (z : Wd) : ASp := fun ds M Q _ => ∃ ns : List Int, ds = [.frz (ns.map D.int)] ∧ ns.length ≤ 63 ∧ (∀ z ∈ ns, z.natAbs < 2 ^ big) ∧ TabM z M ∧ ∀ M', Q (.bl true) M'
theorem tabM_of {K : PySem.W.Frag} {C : Nat → Addr} {p : Addr × Addr × Str} {cs : List (Addr × Addr × Str)} (hn : ((p :: cs).map fun p => p.2.1).Nodup) : TabM ⟨K, C, mkT ((p :: cs).map fun p => p.2)⟩ (tabMem (p :: cs)) := fun i => by
  have hm : mkT ((p :: cs).map fun p => p.2) i ∈ (p :: cs).map fun p => p.2 := mkT_mem
  obtain ⟨q, hq, e⟩ := List.mem_map.mp hm
  show tabMem (p :: cs) (mkT ((p :: cs).map fun p => p.2) i).1 = some (.tab (mkT ((p :: cs).map fun p => p.2) i).2)
  rw [← e]
  unfold tabMem
  cases ef : (p :: cs).find? fun r => r.2.1 == q.2.1 with
  | none => exact absurd (List.find?_eq_none.mp ef q hq) (by simp)
  | some r =>
    have hr := List.mem_of_find?_eq_some ef
    have he : r.2.1 = q.2.1 := beq_iff_eq.mp (List.find?_some (p := fun r : Addr × Addr × Str => r.2.1 == q.2.1) ef)
    have : r = q := by
      obtain ⟨i, hi, rfl⟩ := List.getElem_of_mem hr
      obtain ⟨j, hj, rfl⟩ := List.getElem_of_mem hq
      have key := List.pairwise_iff_getElem.mp hn
      rcases Nat.lt_trichotomy i j with k | rfl | k
      · exact absurd (by rw [List.getElem_map, List.getElem_map]; exact he) (key i j (by rw [List.length_map]; exact hi) (by rw [List.length_map]; exact hj) k)
      · rfl
      · exact absurd (by rw [List.getElem_map, List.getElem_map]; exact he.symm) (key j i (by rw [List.length_map]; exact hj) (by rw [List.length_map]; exact hi) k)
    rw [this]; rfl
theorem walk_AT {l : PySem.W.OpenLaw} {k : Nat} {q : Program} {loose : List Str} {XP : (Str → Option Value) → Heap → Prop} {YP : World → Heap → Prop} {d : DefRec} {K : Params → PySem.W.Frag} {x : Str}
    (hn : l.most = some 63) (hdf : d.params.defaults = []) (hr : Room k callerA)
    (hY : ∀ (w : World) (h : Heap), YP w h → (K w.params).In h)
    (F : ∀ (w : World) (mg : Str → Option Value) (fa : Addr) (h : Heap), YP w h → (K w.params).In h → h.Ns mainGlobals mg → mg d.name = some (.ref fa) →
      ∃ (z : Wd) (cs : List (Addr × Addr × Str)) (fd : FuncData), (∀ p ∈ cs, h.get? p.2.1 = some { cls := .none, data := .fields #[] }) ∧ (∀ p ∈ cs, (K w.params).lookup p.2.1 = none) ∧ (∀ p ∈ cs, PySem.W.codeHdIn (K w.params) p.1 p.2.1 = true) ∧ TabM z (tabMem cs) ∧
        (∀ (s : Shared) (u : Value), BindsTo s fd ⟨[u], []⟩ [(x, u)]) ∧ ∀ base : Heap, (K w.params).In base → base.Ns mainGlobals mg → (∀ p ∈ cs, TabB base mg p.1 p.2.1) → FA l.prog w (K w.params) mg base k fa fd [x] (spLawT z)) :
    PySem.W.WalkO q loose XP YP l.row.toRowW d [] (fun f vs => PySem.call f vs) := by
  refine Att.attach_callB hn hdf fun w s₀ s₁ mg mb fa o pm cd doc a vs ns G Y ho hd hcd hmg hobj hints hlen hbits hgen => ?_
  have KX := hY w _ Y
  obtain ⟨z, cs, fd, hT, nT, hC, hM, hb, hF⟩ := F w mg fa _ Y KX G.T.g hmg
  exact endT_call KX G.T.g G.T.b G.T.builtins G.T.nolimit hgen hT nT (fun p hp => PySem.W.codeHd_of_K KX (hC p hp)) G.T.bmain hobj hints (Nat.le_trans hlen (by decide)) hr hF hb ⟨ns, rfl, hlen, fun z hz => bits_lt (hbits z hz), hM, fun _ => rfl⟩
end HA
/-! A32: more steps. -/
namespace HA
open PySem PySem.Spec L2
section
variable {M : Mem} {Q : DK} {p : Addr} {ns : List Int} {xs : List D} {lo hi : Option Int}
theorem i_slrI (hp : M p = some (.lst (ns.map .int))) (h : Q (lI (cut ns lo hi)) M) : sSlF (.ref p) lo hi M Q := ⟨_, hp, by rw [cut_mapI]; exact h⟩
theorem i_slr (hp : M p = some (.lst xs)) (h : Q (.lst (cut xs lo hi)) M) : sSlF (.ref p) lo hi M Q := ⟨_, hp, h⟩
end
/-- cuts by numbers -/
theorem cut_ij {α : Type} {xs : List α} {i j : Int} (hi : 0 ≤ i) (hj : 0 ≤ j) : cut xs (some i) (some j) = (xs.drop i.toNat).take (j.toNat - i.toNat) := (by exact HA.Wq.get : @HA.Wq (cut xs (some i) (some j) = (xs.drop i.toNat).take (j.toNat - i.toNat)) (by
  obtain ⟨a, rfl⟩ := Int.eq_ofNat_of_zero_le hi
  obtain ⟨b, rfl⟩ := Int.eq_ofNat_of_zero_le hj
  unfold cut
  rw [HT.sIx_nat, HT.sIx_nat, Int.toNat_natCast, Int.toNat_natCast]
  by_cases h : a ≤ xs.length
  · rw [Nat.min_eq_left h, List.take_eq_take_iff, List.length_drop]; omega
  · rw [List.drop_of_length_le (by omega), List.drop_of_length_le (by omega)]; simp))
theorem cut_i {α : Type} {xs : List α} {i : Int} (hi : 0 ≤ i) : cut xs (some i) none = xs.drop i.toNat := by
  obtain ⟨a, rfl⟩ := Int.eq_ofNat_of_zero_le hi
  exact cut_from
theorem cut_j {α : Type} {xs : List α} {i : Int} (hi : 0 ≤ i) : cut xs none (some i) = xs.take i.toNat := by
  obtain ⟨a, rfl⟩ := Int.eq_ofNat_of_zero_le hi
  exact cut_to
theorem oct_getD {ns : List Int} (h : Oct ns) (i : Nat) : 0 ≤ ns.getD i 0 ∧ ns.getD i 0 < 256 := (by exact HA.Wq.get : @HA.Wq (0 ≤ ns.getD i 0 ∧ ns.getD i 0 < 256) (by
  rw [List.getD_eq_getElem?_getD]
  cases e : ns[i]? with
  | none => decide
  | some w => exact h w (List.mem_of_getElem? e)))
/-- one thing exchanged -/
def bend {α : Type} (xs : List α) (a : Nat) (v : α) : List α := xs.take a ++ [v] ++ xs.drop (a + 1)
theorem bend_len {α : Type} {xs : List α} {a : Nat} {v : α} (h : a < xs.length) : (bend xs a v).length = xs.length := by simp [bend]; omega
theorem bend_oct {ns : List Int} {a : Nat} {v : Int} (h : Oct ns) (h0 : 0 ≤ v) (h1 : v < 256) : Oct (bend ns a v) := (h.take.app (.one h0 h1)).app h.drop
theorem bend_ne {ns : List Int} {a : Nat} {v : Int} (ha : a < ns.length) (hv : v ≠ ns.getD a 0) : bend ns a v ≠ ns := fun e => by
  have h1 : (bend ns a v)[a]? = ns[a]? := by rw [e]
  unfold bend at h1
  rw [List.append_assoc, List.getElem?_append_right (by simp; omega)] at h1
  rw [List.getElem?_eq_getElem ha] at h1
  simp [Nat.min_eq_left (Nat.le_of_lt ha)] at h1
  apply hv
  rw [List.getD_eq_getElem?_getD, List.getElem?_eq_getElem ha]; exact h1
theorem cut_ni {α : Type} {xs : List α} {i : Int} (hi : i < 0) : cut xs (some i) none = xs.drop (i + xs.length).toNat := by
  unfold cut
  rw [HT.sIx_none, show HT.sIx xs.length 0 (some i) = (i + (xs.length : Int)).toNat from if_pos hi, List.take_of_length_le (by simp)]
theorem cut_nj {α : Type} {xs : List α} {i : Int} (hi : i < 0) : cut xs none (some i) = xs.take (i + xs.length).toNat := by
  unfold cut
  rw [HT.sIx_none, show HT.sIx xs.length xs.length (some i) = (i + (xs.length : Int)).toNat from if_pos hi, List.drop_zero, Nat.sub_zero]
theorem i_addr {M : Mem} {Q : DK} {p : Addr} {xs ys : List D} (hp : M p = some (.lst xs)) (c : xs.length + ys.length ≤ sizeLine) (h : Q (.lst (xs ++ ys)) M) : bAddF (.ref p) (.lst ys) M Q := ⟨xs, ys, hp, rfl, c, h⟩
theorem i_baddl {M : Mem} {Q : DK} {xs ys : List Int} (c : xs.length + ys.length ≤ sizeLine) (h : ∀ p, M p = none → Q (.ref p) (mset M p (.lst ((xs ++ ys).map .int)))) : bAdd (lI xs) (lI ys) M Q := ⟨_, _, rfl, rfl, by simpa using c, by rw [← List.map_append]; exact h⟩
theorem i_addrI {M : Mem} {Q : DK} {p : Addr} {xs ys : List Int} (hp : M p = some (.lst (xs.map .int))) (c : xs.length + ys.length ≤ sizeLine) (h : Q (lI (xs ++ ys)) M) : bAddF (.ref p) (lI ys) M Q := ⟨_, _, hp, rfl, by simpa using c, by rw [← List.map_append]; exact h⟩
theorem ix_t {M : Mem} {Q : DK} {ns : List Int} {a : Int} {k : Nat} (ea : a = k) (hk : k < ns.length) (h : Q (.int (ns.getD k 0)) M) : bIx (tI ns) (.int a) M Q := (by exact HA.Wq.get : @HA.Wq (bIx (tI ns) (.int a) M Q) (by
  subst ea
  refine i_ixt (xs := ns.map .int) (d := .int (ns.getD k 0)) ?_ h
  rw [atI_map, atI_nat hk]
  simp [List.getD_eq_getElem?_getD, List.getElem?_eq_getElem hk]))
theorem ix_l {M : Mem} {Q : DK} {ns : List Int} {a : Int} {k : Nat} (ea : a = k) (hk : k < ns.length) (h : Q (.int (ns.getD k 0)) M) : bIx (lI ns) (.int a) M Q := (by exact HA.Wq.get : @HA.Wq (bIx (lI ns) (.int a) M Q) (by
  subst ea
  refine i_ixl (xs := ns.map .int) (d := .int (ns.getD k 0)) ?_ h
  rw [atI_map, atI_nat hk]
  simp [List.getD_eq_getElem?_getD, List.getElem?_eq_getElem hk]))
theorem ix_r {M : Mem} {Q : DK} {p : Addr} {ns : List Int} {a : Int} {k : Nat} (hp : M p = some (.lst (ns.map .int))) (ea : a = k) (hk : k < ns.length) (h : Q (.int (ns.getD k 0)) M) : bIx (.ref p) (.int a) M Q := (by exact HA.Wq.get : @HA.Wq (bIx (.ref p) (.int a) M Q) (by
  subst ea
  refine i_ixr hp (d := .int (ns.getD k 0)) ?_ h
  rw [atI_map, atI_nat hk]
  simp [List.getD_eq_getElem?_getD, List.getElem?_eq_getElem hk]))
theorem f13 {a0 a1 a2 a3 a4 a5 a6 a7 a8 a9 a10 a11 a12 : Int} : D.tup [.int a0, .int a1, .int a2, .int a3, .int a4, .int a5, .int a6, .int a7, .int a8, .int a9, .int a10, .int a11, .int a12] = tI [a0, a1, a2, a3, a4, a5, a6, a7, a8, a9, a10, a11, a12] := rfl
theorem g13 {a0 a1 a2 a3 a4 a5 a6 a7 a8 a9 a10 a11 a12 : Int} : D.lst [.int a0, .int a1, .int a2, .int a3, .int a4, .int a5, .int a6, .int a7, .int a8, .int a9, .int a10, .int a11, .int a12] = lI [a0, a1, a2, a3, a4, a5, a6, a7, a8, a9, a10, a11, a12] := rfl
theorem f14 {a0 a1 a2 a3 a4 a5 a6 a7 a8 a9 a10 a11 a12 a13 : Int} : D.tup [.int a0, .int a1, .int a2, .int a3, .int a4, .int a5, .int a6, .int a7, .int a8, .int a9, .int a10, .int a11, .int a12, .int a13] = tI [a0, a1, a2, a3, a4, a5, a6, a7, a8, a9, a10, a11, a12, a13] := rfl
theorem g14 {a0 a1 a2 a3 a4 a5 a6 a7 a8 a9 a10 a11 a12 a13 : Int} : D.lst [.int a0, .int a1, .int a2, .int a3, .int a4, .int a5, .int a6, .int a7, .int a8, .int a9, .int a10, .int a11, .int a12, .int a13] = lI [a0, a1, a2, a3, a4, a5, a6, a7, a8, a9, a10, a11, a12, a13] := rfl
theorem f15 {a0 a1 a2 a3 a4 a5 a6 a7 a8 a9 a10 a11 a12 a13 a14 : Int} : D.tup [.int a0, .int a1, .int a2, .int a3, .int a4, .int a5, .int a6, .int a7, .int a8, .int a9, .int a10, .int a11, .int a12, .int a13, .int a14] = tI [a0, a1, a2, a3, a4, a5, a6, a7, a8, a9, a10, a11, a12, a13, a14] := rfl
theorem g15 {a0 a1 a2 a3 a4 a5 a6 a7 a8 a9 a10 a11 a12 a13 a14 : Int} : D.lst [.int a0, .int a1, .int a2, .int a3, .int a4, .int a5, .int a6, .int a7, .int a8, .int a9, .int a10, .int a11, .int a12, .int a13, .int a14] = lI [a0, a1, a2, a3, a4, a5, a6, a7, a8, a9, a10, a11, a12, a13, a14] := rfl
theorem f16 {a0 a1 a2 a3 a4 a5 a6 a7 a8 a9 a10 a11 a12 a13 a14 a15 : Int} : D.tup [.int a0, .int a1, .int a2, .int a3, .int a4, .int a5, .int a6, .int a7, .int a8, .int a9, .int a10, .int a11, .int a12, .int a13, .int a14, .int a15] = tI [a0, a1, a2, a3, a4, a5, a6, a7, a8, a9, a10, a11, a12, a13, a14, a15] := rfl
theorem g16 {a0 a1 a2 a3 a4 a5 a6 a7 a8 a9 a10 a11 a12 a13 a14 a15 : Int} : D.lst [.int a0, .int a1, .int a2, .int a3, .int a4, .int a5, .int a6, .int a7, .int a8, .int a9, .int a10, .int a11, .int a12, .int a13, .int a14, .int a15] = lI [a0, a1, a2, a3, a4, a5, a6, a7, a8, a9, a10, a11, a12, a13, a14, a15] := rfl
theorem br_fT {A B : Prop} (h : B) : (false = true → A) ∧ (True → B) := ⟨nofun, fun _ => h⟩
theorem br_tT {A B : Prop} (h : A) : (True → A) ∧ (true = false → B) := ⟨fun _ => h, nofun⟩
theorem br_FT {A B : Prop} (h : B) : (False → A) ∧ (True → B) := ⟨nofun, fun _ => h⟩
theorem br_TF {A B : Prop} (h : A) : (True → A) ∧ (False → B) := ⟨fun _ => h, nofun⟩
theorem tn_ac {a : Nat} {b : Int} (hb : 0 ≤ b) : ((a : Int) + b).toNat = a + b.toNat := by omega
theorem br_x0 {A B : Prop} (h : B) : ((true ^^ !false) = true → A) ∧ ((true ^^ !false) = false → B) := br_false h
theorem br_x1 {A B : Prop} (h : A) : ((false ^^ !false) = true → A) ∧ ((false ^^ !false) = false → B) := br_true h
theorem br_x2 {A B : Prop} (h : A) : ((true ^^ !true) = true → A) ∧ ((true ^^ !true) = false → B) := br_true h
theorem br_x3 {A B : Prop} (h : B) : ((false ^^ !true) = true → A) ∧ ((false ^^ !true) = false → B) := br_false h
theorem br_x4 {A B : Prop} (h : A) : ((true ^^ false) = true → A) ∧ ((true ^^ false) = false → B) := br_true h
theorem br_x5 {A B : Prop} (h : B) : ((false ^^ false) = true → A) ∧ ((false ^^ false) = false → B) := br_false h
/-! try, what a suite reads -/
section
variable {nx : AS → Mem → Prop} {rt : DK} {bk ct : AS → Mem → Prop} {xx : AXs} {σ : AS} {M : Mem} {Q : DK} {E : AXs} {te : AE} {tas : AA} {z : Wd} {c d i : Nat} {f : Str} {fs : List (Str × D)} {a : Addr} {x : D} {b : Bool} {tb : ASt} {ts : ASu}
theorem i_tryAs {K : PySem.W.Frag} {C : Addr} (h : tb ⟨nx, rt, bk, ct, xTry K C (fun a C fs σ' M' => ts a C fs ⟨fun σ M => nx (σ.set i none) M, rt, fun σ M => bk (σ.set i none) M, fun σ M => ct (σ.set i none) M, EF⟩ (σ'.set i (some (.ref a))) M') xx⟩ σ M) : aTryAs K C i tb ts ⟨nx, rt, bk, ct, xx⟩ σ M := h
theorem i_tryOnly {K : PySem.W.Frag} {C : Addr} (h : tb ⟨nx, rt, bk, ct, xTry K C (fun a C fs σ' M' => ts a C fs ⟨nx, rt, bk, ct, EF⟩ σ' M') xx⟩ σ M) : aTryOnly K C tb ts ⟨nx, rt, bk, ct, xx⟩ σ M := h
theorem i_xT {g : Addr → Addr → List (Str × D) → AS → Mem → Prop} (x : Exm z c d true) (h : ∀ a, M a = none → g a (z.C c) fs σ M) : xTry z.K (z.C d) g xx σ (z.C c) fs M := ⟨true, x.exm, fun _ => h, nofun⟩
theorem i_xF {g : Addr → Addr → List (Str × D) → AS → Mem → Prop} (x : Exm z c d false) (h : xx σ (z.C c) fs M) : xTry z.K (z.C d) g xx σ (z.C c) fs M := ⟨false, x.exm, nofun, fun _ => h⟩
theorem i_exF (r : ErrR z c f) (e : fs.lookup f = some x) (h : te σ M (fun y M1 => y = .ref a ∧ Q x M1) E) : aExF z.K a (z.C c) fs f te σ M Q E := (by exact HA.Wq.get : @HA.Wq (aExF z.K a (z.C c) fs f te σ M Q E) (by
  show te σ M (fun y M1 => y = .ref a ∧ ErrG z.K (z.C c) f ∧ ∃ d, fs.lookup f = some d ∧ Q d M1) E
  have : (fun (y : D) (M1 : Mem) => y = .ref a ∧ ErrG z.K (z.C c) f ∧ ∃ d, fs.lookup f = some d ∧ Q d M1) = fun y M1 => y = .ref a ∧ Q x M1 := by
    funext y M1
    apply propext
    exact ⟨fun ⟨h1, _, d, h2, h3⟩ => ⟨h1, by rw [e] at h2; cases h2; exact h3⟩, fun ⟨h1, h3⟩ => ⟨h1, r.g, x, e, h3⟩⟩
  rw [this]; exact h))
theorem i_reflref {R : Prop} (h : R) : D.ref a = D.ref a ∧ R := ⟨rfl, h⟩
def isEK (z : Wd) (a : Addr) (c : Nat) (Q : DK) : List D → Mem → Prop := fun xs M1 => ErrK z.K (z.C c) ∧ ∃ C b, xs = [.ref a, .ref C] ∧ PySem.W.kitOne z.K (.ref (z.C c)) (.ref C) = some b ∧ Q (.bl b) M1
theorem i_isE (h : tas σ M (isEK z a c Q) E) : aIsE z.K a (z.C c) tas σ M Q E := h
theorem i_isEK (r : ErrR z c f) (x : Exm z c d b) (h : Q (.bl b) M) : isEK z a c Q [.ref a, .ref (z.C d)] M := ⟨r.k, _, b, rfl, x.kit, h⟩
end
/-! built-ins of lists -/
section
variable {M : Mem} {Q : DK} {ns : List Int}
theorem i_sortI (h : ∀ ns' : List Int, ns'.Perm ns → ns'.Pairwise (· ≤ ·) → Q (lI ns') M) : cSortedF [lI ns] M Q := ⟨ns, rfl, h⟩
theorem i_sortM (h : ∀ ns' : List Int, ns'.Perm ns → ns'.Pairwise (· ≤ ·) → Q (lI ns') M) : cSortedF [.lst (ns.map .int)] M Q := ⟨ns, rfl, h⟩
theorem i_sumM (h : Q (.int ns.sum) M) : cSumL [.lst (ns.map .int)] M Q := ⟨ns, rfl, h⟩
theorem i_sumI (h : Q (.int ns.sum) M) : cSumL [lI ns] M Q := ⟨ns, rfl, h⟩
theorem i_maxI (h0 : 0 < ns.length) (h : ∀ m, m ∈ ns → (∀ y, y ∈ ns → y ≤ m) → Q (.int m) M) : cMaxL [lI ns] M Q := ⟨ns, rfl, h0, h⟩
theorem i_minI (h0 : 0 < ns.length) (h : ∀ m, m ∈ ns → (∀ y, y ∈ ns → m ≤ y) → Q (.int m) M) : cMinL [lI ns] M Q := ⟨ns, rfl, h0, h⟩
theorem i_allB {f : List Bool → Bool} {bs : List Bool} (h : Q (.bl (f bs)) M) : cAllL f [.lst (bs.map .bl)] M Q := ⟨bs, rfl, h⟩
end
theorem all_nat {p : Nat → Prop} {ys : List D} (h : ∀ (i : Nat) (y : D), ys[i]? = some y → ∃ k : Nat, y = .int k ∧ p k) : ∃ ks : List Nat, ys = (ks.map fun (k : Nat) => (k : Int)).map .int ∧ ∀ k ∈ ks, p k := (by exact HA.Wq.get : @HA.Wq (∃ ks : List Nat, ys = (ks.map fun (k : Nat) => (k : Int)).map .int ∧ ∀ k ∈ ks, p k) (by
  induction ys with
  | nil => exact ⟨[], rfl, fun _ h => nomatch h⟩
  | cons y r ih =>
    obtain ⟨w, rfl, hw⟩ := h 0 y rfl
    obtain ⟨ws, rfl, hs⟩ := ih fun i y hy => h (i + 1) y hy
    refine ⟨w :: ws, rfl, fun v hv => ?_⟩
    rcases List.mem_cons.mp hv with rfl | hv
    · exact hw
    · exact hs v hv))
/-- three numbers in their order -/
theorem sort3 {p : Nat → Prop} {ks : List Nat} {ns : List Int} (hl : ks.length = 3) (hp : ns.Perm (ks.map fun (k : Nat) => (k : Int))) (hs : ns.Pairwise (· ≤ ·)) (h : ∀ k ∈ ks, p k) : ∃ a b c : Nat, ns = [(a : Int), (b : Int), (c : Int)] ∧ a ≤ b ∧ b ≤ c ∧ p a ∧ p b ∧ p c := (by exact HA.Wq.get : @HA.Wq (∃ a b c : Nat, ns = [(a : Int), (b : Int), (c : Int)] ∧ a ≤ b ∧ b ≤ c ∧ p a ∧ p b ∧ p c) (by
  have h3 : ns.length = 3 := by rw [hp.length_eq, List.length_map, hl]
  match ns, h3 with
  | [x, y, w], _ =>
    have get : ∀ n ∈ [x, y, w], ∃ k : Nat, n = (k : Int) ∧ p k := fun n hn => by
      obtain ⟨k, hk, e⟩ := List.mem_map.mp (hp.mem_iff.mp hn)
      exact ⟨k, e.symm, h k hk⟩
    obtain ⟨a, rfl, pa⟩ := get x (by simp)
    obtain ⟨b, rfl, pb⟩ := get y (by simp)
    obtain ⟨c, rfl, pc⟩ := get w (by simp)
    simp only [List.pairwise_cons, List.mem_cons, List.not_mem_nil, or_false, forall_eq_or_imp, forall_eq] at hs
    exact ⟨a, b, c, rfl, by omega, by omega, pa, pb, pc⟩))
/-! a tuple so many times -/
theorem i_mul2I {M : Mem} {Q : DK} {i k : Int} (c : -4611686018427387904 ≤ k ∧ k ≤ 1000) (h : Q (tI (List.replicate k.toNat i)) M) : bMul2 (tI [i]) (.int k) M Q := (by exact HA.Wq.get : @HA.Wq (bMul2 (tI [i]) (.int k) M Q) (by
  have e : (List.replicate k.toNat [D.int i]).flatten = (List.replicate k.toNat i).map D.int := by
    generalize k.toNat = n
    induction n with
    | zero => rfl
    | succ n ih => rw [List.replicate_succ, List.flatten_cons, ih, List.replicate_succ]; rfl
  unfold bMul2 tI
  simp only [List.map_cons, List.map_nil]
  exact ⟨c, by simp, by rw [e]; exact h⟩))
end HA
/-! A33: sum(xs) of tuples, too. -/
namespace HA
open PySem PySem.Spec PyProof.Rows L2
def rSumTup (K : PySem.W.Frag) : List V → Hp → VK → Prop := fun vs H Q => ∃ (a : Addr) (ns : List Int), vs = [V.ref a] ∧ SqT K H a (ns.map V.int) ∧ Q (.int ns.sum) H
theorem cr_sumTup {X : Cx} (hc : X.calm = true) : CallR X (.builtin "sum") (rSumTup X.K) := (by exact HA.Wq.get : @HA.Wq (CallR X (.builtin "sum") (rSumTup X.K)) (by
  intro pins s σ H vs us Q I r h
  obtain ⟨a, ns, rfl, hs, q⟩ := h
  obtain ⟨its, rv, ht, _⟩ := I.tuple hs
  rw [Vals.ref1 r]
  have hi := rv.ints
  obtain ⟨xs, e⟩ := hi.allInts.items
  have hn : numsOf (intItems xs).toList = ns := by rw [← e]; exact hi.numsOf
  rw [nums_intItems] at hn
  rw [e] at ht
  obtain ⟨o, h1, h2, n, h3⟩ := ht
  refine PySem.W.ktm_sumG (I.ok.hd hc) ⟨o, h1, h2, n, h3⟩ fun h' tk t' hk => ?_
  rw [preSum_eq, List.take_of_length_le (by simp), hn]
  exact ⟨.int _, H, I.kept hk, ⟨_, rfl⟩, q⟩))
def cSumA : AC := fun xs M Q => match xs with
  | [.tup ds] => ∃ ns : List Int, ds = ns.map D.int ∧ Q (.int ns.sum) M
  | [x] => ∃ ns : List Int, LsAt M x (ns.map D.int) ∧ Q (.int ns.sum) M
  | _ => False
theorem cb_sumA {X : Cx} (hc : X.calm = true) : CallB X "sum" cSumA := ⟨fun vs H Q => rSum X.K vs H Q ∨ rSumTup X.K vs H Q, fun pins s σ H vs us Q I r h => h.elim (cr_sum hc pins s σ H vs us Q I r) (cr_sumTup hc pins s σ H vs us Q I r), fun G M H xs vs Q R m r h k => by
  have lst : ∀ x, xs = [x] → (∃ ns : List Int, LsAt M x (ns.map D.int) ∧ Q (.int ns.sum) M) → rSum X.K vs H R ∨ rSumTup X.K vs H R := fun x hx ⟨ns, h1, h2⟩ => by
    subst hx
    obtain ⟨v, rfl, rv⟩ := rpa1 r
    refine .inl (lsAt m rv h1 fun a ws e p t => ?_)
    subst e
    have e := t.of_ints
    subst e
    exact ⟨a, ns, rfl, p, k _ _ (.here m (.int _) h2)⟩
  cases xs with
  | nil => exact h.elim
  | cons x r2 =>
    cases r2 with
    | cons y r3 => cases x <;> exact h.elim
    | nil =>
      cases x with
      | tup ds =>
        obtain ⟨ns, h1, h2⟩ := h
        subst h1
        obtain ⟨v, rfl, rv⟩ := rpa1 r
        obtain ⟨a, vs, rfl, p, t⟩ := rp_tup rv
        have e := t.of_ints
        subst e
        exact .inr ⟨a, ns, rfl, same_sqt m.same p, k _ _ (.here m (.int _) h2)⟩
      | _ => exact lst _ rfl h⟩
section
variable {M : Mem} {Q : DK} {ns : List Int}
theorem s_sumt (h : Q (.int ns.sum) M) : cSumA [tI ns] M Q := ⟨ns, rfl, h⟩
theorem s_suml (h : Q (.int ns.sum) M) : cSumA [lI ns] M Q := ⟨ns, rfl, h⟩
theorem s_summ (h : Q (.int ns.sum) M) : cSumA [.lst (ns.map .int)] M Q := ⟨ns, rfl, h⟩
theorem s_sumr {p : Addr} (hp : M p = some (.lst (ns.map .int))) (h : Q (.int ns.sum) M) : cSumA [.ref p] M Q := ⟨ns, hp, h⟩
end
end HA
/-! A34: tuples of ints by their order. -/
namespace HA
open PySem PySem.Spec L2
def bLtA : A2 := fun x y M Q => ∃ ns ms : List Int, x = tI ns ∧ y = tI ms ∧ Q (.bl (HT.lexLt ns ms)) M
theorem c_ltA {X : Cx} (hu : X.A.units + 64 < cLine) : CmpOk X .Lt bLtA := ⟨_, op_ltT (by omega), fun G M H x y xv yv Q R m rx ry h k => by
  obtain ⟨ns, ms, rfl, rfl, q⟩ := h
  obtain ⟨a, vs, rfl, p, t⟩ := rp_tup rx
  obtain ⟨b, ws, rfl, p2, t2⟩ := rp_tup ry
  have e := t.of_ints
  have e2 := t2.of_ints
  subst e e2
  exact ⟨a, b, ns, ms, rfl, rfl, same_sqt m.same p, same_sqt m.same p2, k _ _ (.here m (.bl _) q)⟩⟩
theorem i_ltA {M : Mem} {Q : DK} {ns ms : List Int} (h : Q (.bl (HT.lexLt ns ms)) M) : bLtA (tI ns) (tI ms) M Q := ⟨ns, ms, rfl, rfl, h⟩
/-! the written things of a constant tuple, one by one -/
theorem vi_cons {i : Int} {t : Tok} {vs : List V} {us : List Value} (h : Vals vs us) : Vals (.int i :: vs) (.int i t :: us) := .cons ⟨t, rfl⟩ h
theorem vs_cons {x : Str} {t : Tok} {vs : List V} {us : List Value} (h : Vals vs us) : Vals (.str x :: vs) (.str x t :: us) := .cons ⟨t, rfl⟩ h
theorem vr_cons {a : Addr} {vs : List V} {us : List Value} (h : Vals vs us) : Vals (.ref a :: vs) (.ref a :: us) := .cons rfl h
end HA
/-! A36: o.f as a target among others. -/
namespace HA
open PySem PySem.Spec L2
section
variable {X : Cx} {B : Hp} {W : WX} {o : Expr} {to : TE} {ta : AE} {f : Str} {pos : Pos}
theorem pg_attr (ho : PE X o to) : PG X (.Attribute o f pos) (fun v σ H Q => to σ H fun x H1 => ∃ a C dx fs, x = .ref a ∧ H1 a = some (.ins C dx fs) ∧ Cls X.K C ∧ NoAttr X.K C f ∧ fs.length < 1000 ∧ Q σ (upd H1 a (.ins C dx (putF f v fs)))) := (by exact HA.Wq.get : @HA.Wq (PG X (.Attribute o f pos) (fun v σ H Q => to σ H fun x H1 => ∃ a C dx fs, x = .ref a ∧ H1 a = some (.ins C dx fs) ∧ Cls X.K C ∧ NoAttr X.K C f ∧ fs.length < 1000 ∧ Q σ (upd H1 a (.ins C dx (putF f v fs))))) (by
  refine ⟨fun pins s σ H v u Q I r h => ?_⟩
  rw [assign_Attribute]
  refine wpAny_bind (wpAny_holding (thn (ho.run pins s σ H _ I h) fun ov s1 ⟨x, H1, I1, rx, a, C, dx, fs, ex, ea, c, n, l, q⟩ => ?_))
  subst ex
  obtain rfl : ov = Value.ref a := rx
  exact wpAny_bind (wpAny_standAt (wpAny_bind (wpAny_holding (setattr_ok I1 ea c n l r fun s2 I2 => wpAny_release ⟨σ, _, I2, q⟩))))))
def agFld (K : PySem.W.Frag) (to : AE) (f : Str) : AG := fun d σ M Q E => to σ M (fun x M1 => fSet K f x d M1 fun M2 => Q σ M2) E
theorem qg_fld (ho : QE X B W o ta) : QG X B W [] (.Attribute o f pos) (agFld X.K ta f) :=
  pg_imp (pg_attr ho) fun v s H R ⟨G, σ, M, d, Q, E, ss, r, h, k, kx⟩ =>
    ⟨G, σ, M, _, E, ss, h, fun xv H1 ⟨x, M1, G1, e1, m1, r1, q1⟩ =>
      fSet_ok (P := fun H2 => R s H2) m1 r1 (r.up e1) q1 fun M2 H2 m2 q2 => k s H2 σ M2 G1 e1 (ss.with e1 m2) (.refl _ _) q2, kx⟩
end
theorem i_agf {K : PySem.W.Frag} {to : AE} {f : Str} {d : D} {σ : AS} {M : Mem} {Q : AS → Mem → Prop} {E : AXs} (h : to σ M (fun x M1 => fSet K f x d M1 fun M2 => Q σ M2) E) : agFld K to f d σ M Q E := h
end HA
set_option maxHeartbeats 1000000
/-! A37: t += u of tuples; lists of unlike lengths compared. -/
namespace HA
open PySem PySem.Spec L2 PyProof.Rows
section
variable {prog : Program} {w : World} {A : Around} {E : Value → Shared → Prop} {s : Shared}
theorem noI_tup : typeLookup (.type "tuple") (dunderI "add") = pure none := by rw [typeLookup_type, builtinLookup_eq_fast]; kernel_rfl
/-- a tuple's += is its + -/
theorem itup {t b : Addr} {its jts : Array Value} {Q : Value → Shared → Prop} (ht : IsTup s.heap t its) (hb : IsTup s.heap b jts)
    (h0 : its.isEmpty = true → Q (.ref b) s) (h1 : its.isEmpty = false → jts.isEmpty = true → Q (.ref t) s)
    (h2 : its.isEmpty = false → jts.isEmpty = false → Q (.ref s.heap.objs.size) { s with heap := s.heap.push { cls := .type "tuple", data := .seq (its ++ jts) } }) (hz : its.size + jts.size ≤ sizeLine) : wpAny (model prog w) A (inplaceOp .Add (.ref t) (.ref b)) Q E s := by
  obtain ⟨⟨c1, dd1, da1, sl1⟩, g1, e1, n1, k1⟩ := id ht
  obtain ⟨⟨c2, dd2, da2, sl2⟩, g2, e2, n2, k2⟩ := id hb
  dsimp only at e1 k1 e2 k2
  subst e1 k1 e2 k2
  have T1 : s.TypeIs (.ref t) "tuple" := ⟨_, g1, rfl⟩
  have T2 : s.TypeIs (.ref b) "tuple" := ⟨_, g2, rfl⟩
  refine wpAny_inplaceOp_concat T1 T2 noI_tup noFill_tuple_add seq_tuple_add ?_
  by_cases a1 : its.isEmpty = true
  · exact call_meets PySem.F.slot_tuple_add T1 PySem.F.entry_tuple_add (PySem.F.args_tuple_add_2 _ _) (tuple_addW0 t b its jts n1 n2 dd1 dd2 sl1 sl2 a1) ⟨g1, g2, h0 a1⟩
  · have a3 : its.isEmpty = false := by simpa using a1
    by_cases a2 : jts.isEmpty = true
    · exact call_meets PySem.F.slot_tuple_add T1 PySem.F.entry_tuple_add (PySem.F.args_tuple_add_2 _ _) (tuple_addW1 t b its jts n1 n2 dd1 dd2 sl1 sl2 a1 a2) ⟨g1, g2, h1 a3 a2⟩
    · exact call_meets PySem.F.slot_tuple_add T1 PySem.F.entry_tuple_add (PySem.F.args_tuple_add_2 _ _) (tuple_addW2 t b its jts n1 n2 dd1 dd2 sl1 sl2 a1 a2 hz) ⟨g1, g2, h2 a3 (by simpa using a2)⟩
end
section
variable {X : Cx} {B : Hp} {W : WX}
theorem iop_catA : OpR X (inplaceOp .Add) (rCatA X.K) := (by exact HA.Wq.get : @HA.Wq (OpR X (inplaceOp .Add) (rCatA X.K)) (by
  intro pins s σ H x y v u Q I rx ry h
  obtain ⟨a, b, xs, ys, rfl, rfl, ha, hb, hz, q0, q1, q2⟩ := h
  cases rx
  cases ry
  obtain ⟨its, r1, p1, _⟩ := I.tuple ha
  obtain ⟨jts, r2, p2, _⟩ := I.tuple hb
  have l1 := r1.length
  have l2 := r2.length
  refine itup p1 p2 (fun z => ⟨.ref b, H, I, rfl, q0 ?_⟩) (fun z z2 => ⟨.ref a, H, I, rfl, q1 ?_ ?_⟩) (fun z z2 => ?_) (by simp; omega)
  · apply List.length_eq_zero_iff.mp; simp at z; rw [z] at l1; simpa using l1
  · intro e; subst e; simp at z; apply z; apply List.length_eq_zero_iff.mp; simpa using l1.symm
  · apply List.length_eq_zero_iff.mp; simp at z2; rw [z2] at l2; simpa using l2
  · have e : its.toArray ++ jts.toArray = (its ++ jts).toArray := by simp
    rw [e]
    refine ⟨.ref s.heap.objs.size, _, I.laid (t' := s.toks) (o := .tup (xs ++ ys)) (fun b ob q => Heap.get?_push_of_some _ q) (Nat.le_refl _) ?_, rfl, q2 ?_ ?_ _ (I.hok.fresh (Nat.le_refl _))⟩
    · exact ⟨by rw [List.length_append]; exact hz, _, r1.append r2, IsTup.new _ _⟩
    · intro e; subst e; simp at z; apply z; apply List.length_eq_zero_iff.mp; simpa using l1.symm
    · intro e; subst e; simp at z2; apply z2; apply List.length_eq_zero_iff.mp; simpa using l2.symm))
/-- op= of tuples -/
def bIAddT : A2 := fun x y M Q => ∃ xs ys, x = .tup xs ∧ y = .tup ys ∧ xs.length + ys.length ≤ sizeLine ∧ Q (.tup (xs ++ ys)) M
theorem i_addT : IpOk X .Add bIAddT := ⟨_, pip_of iop_catA, fun G M H x y xv yv Q R m rx ry h k => by
  obtain ⟨xs, ys, rfl, rfl, hz, q⟩ := h
  obtain ⟨a, vs, rfl, p1, r1⟩ := rp_tup rx
  obtain ⟨b, ws, rfl, p2, r2⟩ := rp_tup ry
  refine ⟨a, b, vs, ws, rfl, rfl, same_sqt m.same p1, same_sqt m.same p2, by rw [← r1.len, ← r2.len]; exact hz, fun e => ?_, fun _ e => ?_, fun _ _ p hp => Kv.tup m k (r1.app r2) hp q⟩
  · subst e; cases r1; exact k _ _ (.here m ry q)
  · subst e; cases r2; exact k _ _ (.here m rx (by simpa using q))⟩
/-- lists of unlike lengths -/
def rLenE (K : PySem.W.Frag) (b : Bool) : R2 := fun x y H Q => ∃ a c xs ys, x = .ref a ∧ y = .ref c ∧ SqL K H a xs ∧ SqL K H c ys ∧ xs.length ≠ ys.length ∧ Q (.bl b) H
theorem op_eqLen (hu : X.A.units + 64 < cLine) : OpR X (compareOp .Eq) (rLenE X.K false) := (by exact HA.Wq.get : @HA.Wq (OpR X (compareOp .Eq) (rLenE X.K false)) (by
  intro pins s σ H x y v u Q I rx ry h
  obtain ⟨a, c, xs, ys, rfl, rfl, ha, hc, hl, q⟩ := h
  cases rx
  cases ry
  obtain ⟨its, r1, p1, _⟩ := I.list ha
  obtain ⟨jts, r2, p2, _⟩ := I.list hc
  exact SeqAt.eq_list_lengthsAt p1.isList p2.isList (by simp; rw [← r1.length, ← r2.length]; exact hl) (by omega) ⟨.bl false, H, I, rfl, q⟩))
theorem op_neLen (hu : X.A.units + 64 < cLine) : OpR X (compareOp .NotEq) (rLenE X.K true) := (by exact HA.Wq.get : @HA.Wq (OpR X (compareOp .NotEq) (rLenE X.K true)) (by
  intro pins s σ H x y v u Q I rx ry h
  obtain ⟨a, c, xs, ys, rfl, rfl, ha, hc, hl, q⟩ := h
  cases rx
  cases ry
  obtain ⟨its, r1, p1, _⟩ := I.list ha
  obtain ⟨jts, r2, p2, _⟩ := I.list hc
  exact SeqAt.RcNeAt.lists_lengths p1.isList p2.isList (by simp; rw [← r1.length, ← r2.length]; exact hl) (by omega) _ _ _ _ ⟨.bl true, H, I, rfl, q⟩))
/-- ==, also of lists of unlike lengths -/
def bEqZ (b : Bool) : A2 := fun x y M Q => bEq b x y M Q ∨ ∃ xs ys, LsAt M x xs ∧ LsAt M y ys ∧ xs.length ≠ ys.length ∧ Q (.bl b) M
theorem c_eqZ (hu : X.A.units + 64 < cLine) : CmpOk X .Eq (bEqZ false) := ⟨_, (op_eq.or (op_eqD hu)).or (op_eqLen hu), fun G M H x y xv yv Q R m rx ry h k => by
  rcases h with h | ⟨xs, ys, h1, h2, h3, q⟩
  · exact .inl (bEq_ok G M H x y xv yv Q R m rx ry h k)
  · refine lsAt m rx h1 fun a ws ea p t => lsAt m ry h2 fun c us ec p2 t2 => ?_
    exact .inr ⟨a, c, ws, us, ea, ec, p, p2, by rw [← t.len, ← t2.len]; exact h3, k _ _ (.here m (.bl _) q)⟩⟩
theorem c_neZ (hu : X.A.units + 64 < cLine) : CmpOk X .NotEq (bEqZ true) := ⟨_, (op_ne.or (op_neD hu)).or (op_neLen hu), fun G M H x y xv yv Q R m rx ry h k => by
  rcases h with h | ⟨xs, ys, h1, h2, h3, q⟩
  · exact .inl (bNe_ok G M H x y xv yv Q R m rx ry h k)
  · refine lsAt m rx h1 fun a ws ea p t => lsAt m ry h2 fun c us ec p2 t2 => ?_
    exact .inr ⟨a, c, ws, us, ea, ec, p, p2, by rw [← t.len, ← t2.len]; exact h3, k _ _ (.here m (.bl _) q)⟩⟩
end
theorem i_eqzl {b : Bool} {xs ys : List D} {M : Mem} {Q : DK} (hl : xs.length ≠ ys.length) (h : Q (.bl b) M) : bEqZ b (.lst xs) (.lst ys) M Q := .inr ⟨xs, ys, rfl, rfl, hl, h⟩
theorem i_eqz0 {b : Bool} {x y : D} {M : Mem} {Q : DK} (h : bEq b x y M Q) : bEqZ b x y M Q := .inl h
theorem i_iaddt {xs ys : List Int} {M : Mem} {Q : DK} (hz : xs.length + ys.length ≤ sizeLine) (h : Q (tI (xs ++ ys)) M) : bIAddT (tI xs) (tI ys) M Q := ⟨_, _, rfl, rfl, by simpa using hz, by rw [← List.map_append]; exact h⟩
end HA
/-! A38: defs with defaults, called with all arguments written -/
namespace HA
open PySem PySem.Spec L2
structure CalX (P : Program) (w : World) (K : PySem.W.Frag) (mg : Str → Option Value) (base : Heap) (k : Nat) (x : Str) (ps : List Str) (n : Nat) (ks : List Str) (pm : List Nat) (sp : ASp) : Prop where
  ex : ∃ f fd, PySem.W.keepIn K (.ref f) = true ∧ mg x = some (.ref f) ∧ FA P w K mg base k f fd ps sp ∧ ∀ (s : Shared) (us ws : List Value), K.In s.heap → us.length = n → ws.length = ks.length → BindsTo s fd ⟨us, ks.zip ws⟩ (ps.zip (pick pm (us ++ ws)))
section
variable {X : Cx} {B : Hp} {W : WX} {k n : Nat} {f C : Addr} {fd : FuncData} {ps ks : List Str} {sp : ASp} {pm : List Nat} {x m : Str} {p pos apos : Pos} {e o : Expr} {es : List Expr} {kws : List Keyword} {ta : AE} {tas tks : AA}
theorem run_faX {pins : List (Addr × Obj)} {s : Shared} {st : L2.St} {H : Hp} {us ws : List Value} {vs zs : List V} {G : Hp} {σ : AS} {M : Mem} {Q : DK} {E : AXs} {ds es' : List D} {R : VK} (F : FA X.prog X.w X.K X.mg X.base k f fd ps sp) (hr : Room k X.A) (hg : X.A.guards = some []) (tk : Takes X W)
    (hb : ∀ (s : Shared) (us ws : List Value), X.K.In s.heap → us.length = n → ws.length = ks.length → BindsTo s fd ⟨us, ks.zip ws⟩ (ps.zip (pick pm (us ++ ws)))) (I : Inv X pins st H s) (ss : SS X.K B G σ M st H) (r : Vals vs us) (rz : Vals zs ws) (q1 : RpA X.K G ds vs) (q2 : RpA X.K G es' zs) (l1 : ds.length = n) (l2 : es'.length = ks.length) (h : sp (pick pm (ds ++ es')) M Q (E σ))
    (kq : ∀ v H', Kv X.K G Q v H' → R v H') (kx : ∀ c d s' H', Wx X.K B E c d s' H' → W c d s' H') : wpAny (model X.prog X.w) X.A (call (.ref f) us (ks.zip ws)) (EP X pins st R) X.xe s := (by exact HA.Wq.get : @HA.Wq (wpAny (model X.prog X.w) X.A (call (.ref f) us (ks.zip ws)) (EP X pins st R) X.xe s) (by
  have b : BindsTo s fd ⟨us, ks.zip ws⟩ (ps.zip (pick pm (us ++ ws))) := (hb s us ws I.kIn (by rw [← r.length, ← q1.len]; exact l1) (by rw [← rz.length, ← q2.len]; exact l2))
  refine wpAny_call (codeAny_mono (F.run X.A X.stack s H _ _ (pick pm (vs ++ zs)) (pick pm (ds ++ es')) G M Q (E σ) hr hg I.env0 b (pick_vals (r.append rz) pm) ss.mem (pick_rp (q1.app q2) pm) h) fun r s' hq => ?_)
  cases r with
  | error z => exact tk z s' (XE.of_call I (fun cls d H' hk => kx _ _ _ _ (Wx.of ss hk)) hq)
  | ok fl =>
    cases fl with
    | ret u =>
      obtain ⟨v, H', I', rv, q⟩ := I.after hq
      exact ⟨v, H', I', rv, kq v H' q⟩
    | next => exact False.elim hq
    | brk => exact False.elim hq
    | cont => exact False.elim hq))

theorem qe_callX {j : Nat} (c : CalX X.prog X.w X.K X.mg X.base k x ps n ks pm sp) (hr : Room k X.A) (hg : X.A.guards = some []) (tk : Takes X W) (ha : QA X B W (e :: es) tas) (hk : QK X B W kws tks) (hgl : Gl X x := by rfl) (hj : ks.length = j := by rfl)
    (hks : (backToKw pos (keywordEach kws X.env)).filterMap (·.1) = ks := by rfl) (hall : (backToKw pos (keywordEach kws X.env)).all (·.1.isSome) = true := by rfl)
    (hdb : (x == ("__debug__" : Str)) = false := by decide) (he : starEach (e :: es) X.env = (false, eval e X.env) :: starEach es X.env := by rfl)
    (hpl : ((backTo pos (starEach (e :: es) X.env)).any (·.1) || (backToKw pos (keywordEach kws X.env)).any (·.1.isNone)) = false := by rfl) : QE X B W (.Call (.Name x p) (e :: es) kws pos) (aCall sp n j pm tas tks) := by
  obtain ⟨f, fd, hk0, hm, F, bn⟩ := c.ex
  subst hj
  refine ⟨fun pins s st' H R I ⟨G, σ, M, Q, E, ss, h, kq, kx⟩ => ?_⟩
  refine wpAny_Call_Name_kw (ld_glob I hgl hm ?_ hdb)
  refine PySem.W.callWith_KW (h₀ := X.base) I.ok.mod.kin hk0 hall (thn (ha.run pos pins s st' H (fun vs H1 => ∃ ds M1 G1, Same G G1 ∧ SM X.K G1 M1 H1 ∧ RpA X.K G1 ds vs ∧ _) I ⟨G, σ, M, _, E, ss, h, fun vs H1 ds M1 G1 e1 m1 r1 q1 => ⟨ds, M1, G1, e1, m1, r1, q1⟩, kx⟩) fun us s1 ⟨vs, H1, I1, r, ds, M1, G1, e1, m1, r1, q1⟩ => ?_) hpl he
  refine thn (hk.run pos pins s1 st' H1 (fun vs H2 => ∃ es' M2 G2, Same G1 G2 ∧ SM X.K G2 M2 H2 ∧ RpA X.K G2 es' vs ∧ _) I1 ⟨G1, σ, M1, _, E, ss.with e1 m1, q1, fun vs H2 ds M2 G2 e2 m2 r2 q2 => ⟨ds, M2, G2, e2, m2, r2, q2⟩, kx⟩) fun ws s2 ⟨zs, H2, I2, rz, es', M2, G2, e2, m2, r2, l1, l2, q2⟩ => ⟨I2.kIn, ?_⟩
  rw [hks]
  exact run_faX F hr hg tk bn I2 (ss.with (e1.trans e2) m2) r rz (r1.up e2) r2 l1 l2 q2 (fun v H' kv => kq v H' (kv.lift (e1.trans e2))) kx

end
section
variable {P : Program} {w : World} {K : PySem.W.Frag} {mg : Str → Option Value} {base : Heap} {x qual : Str} {st : Stmt} {f : Addr} {fd : FuncData} {N ps : List Str} {k : Nat} {sp sp' : ASp} {t : ASt}
variable {dvs : List V} {kws : List (Str × V)}
theorem fa_ghX (F : FunD K x qual (defArgs st) (defBody st) (defScope st) dvs kws f fd) (S : FnScope N ps (defScope st)) (len : ∀ ds M Q E, sp ds M Q E → ds.length = ps.length) (hb : ∀ cdv, fd.code = cdv → DefC P w K mg base N qual st f k cdv t)
    (h : ∀ ds M Q E, sp ds M Q E → ∃ D : AEn, t D (startA N ds) M ∧ (∀ σ M', D.nx σ M' → ∃ d' M2, Gh M2 .non M' d' ∧ Q d' M2) ∧ (∀ d M', D.rt d M' → ∃ d' M2, Gh M2 d M' d' ∧ Q d' M2) ∧ (∀ σ M', ¬ D.bk σ M') ∧ (∀ σ M', ¬ D.ct σ M') ∧ ∀ σ C fs M', D.xx σ C fs M' → ∃ M2, MLe M2 M' ∧ E C fs M2) : FA P w K mg base (k + 1) f fd ps sp := (by exact HA.Wq.get : @HA.Wq (FA P w K mg base (k + 1) f fd ps sp) (by
  obtain ⟨oc, od, dV, kV, doc, pm, an, cdv, ct, osl, rfl, lk, hcd, _, _⟩ := F.ex
  refine ⟨len, fun A outer s H args us vs ds G M Q E hr hg e0 hbd r m rp hs => ?_⟩
  have hl : vs.length = ps.length := by rw [← rp.len]; exact len _ _ _ _ hs
  have inK : K.In s.heap := e0.mod.kin.keeps fun b o z => (e0.bs b o z).1
  have nol : s.heap.NoLimit := e0.mod.nolimit.keeps fun b o z => (e0.bs b o z).1
  have kinds : ∀ y ∈ ps.zip us, (defScope st).names.lookup y.1 = some .local ∨ ((defScope st).names.lookup y.1 = some .cell ∧ ((cellsFrom (s.heap.objs.size + 1) (defScope st).names []).lookup y.1).isSome = true) := by
    rintro ⟨y, v⟩ hy
    exact (S.par y (List.of_mem_zip hy).1).imp id fun z => ⟨z, PySem.W.cellsFrom_some _ _ _ (.inl z)⟩
  refine codeAny_call_function hr.depth (inK _ _ lk) rfl S.co S.gen rfl (PySem.W.codeRec_of inK hcd) (hbd _ _ _ _ (wpAny_newFunctionEnv_cells S.kind kinds fun env ee s1 xx => ?_))
  subst ee
  refine ⟨nol.keeps xx.toInCall.keep, codeAny_func ?_⟩
  have I := inv_start (CX := L2.CX P w) (P := P) (w := w) (K := K) (mg := mg) (base := base) (cd := cdv) (E := Kx K G E) S hr.hd e0 hl r xx
  have tk := takes_of (X := BX P w K mg base N qual st f cdv A outer s H (Kx K G E)) (E := Kx K G E) rfl rfl rfl rfl
  have qb := hb cdv rfl A outer s H (Kx K G E) G _ (hr.deeper _) hg tk (passes_of rfl)
  have e0l : (startA N ds).length = (L2.start N vs).length := by simp [startA, L2.start, rp.len]
  have ss : SS K G G (startA N ds) M (L2.start N vs) H := ⟨Same.refl G, m, e0l, fun i d hd => by
    unfold startA at hd
    unfold L2.start
    by_cases hi : i < ds.length
    · rw [List.getElem?_append_left (by simpa using hi), List.getElem?_map] at hd
      cases z : ds[i]? with
      | none => rw [z] at hd; cases hd
      | some y =>
        rw [z] at hd
        cases hd
        obtain ⟨v, h1, h2⟩ := rp.get z
        exact ⟨v, by rw [List.getElem?_append_left (by simp; rw [← rp.len]; exact hi), List.getElem?_map, h1]; rfl, h2⟩
    · rw [List.getElem?_append_right (by simpa using hi), List.getElem?_replicate] at hd
      split at hd <;> cases hd⟩
  have fin : ∀ {σ' : L2.St} {H' : Hp} {s' : Shared} {v : V} {u : Value}, Inv (BX P w K mg base N qual st f cdv A outer s H (Kx K G E)) [] σ' H' s' → RelV v u → Kv K G Q v H' → CE outer P w H s (Kv K G Q) u s' := fun J rv q => ⟨_, _, J.os, J.bare, J.base, J.hok, rv, q⟩
  obtain ⟨D, hD, kn, kr, kb, kc, kx⟩ := h ds M Q E hs
  refine wpAny_mono (qb.run [] s1 (L2.start N vs) H { nx := fun _ H' => Kv K G Q .non H', rt := Kv K G Q } I ⟨G, _, M, D, ss, hD, fun s' H' σ' M' G' e' ss' q => Kv.gh ⟨.non, M', G', e', ss'.mem, .non, kn σ' M' q⟩, fun v H' ⟨d, M', G', e, m, r, q⟩ => Kv.gh ⟨d, M', G', e, m, r, kr d M' q⟩, fun _ _ σ' M' _ _ _ z => kb σ' M' z, fun _ _ σ' M' _ _ _ z => kc σ' M' z, fun c d s' H' ⟨C, fs, a, vs, σ, M', G', e1, e2, s5, h1, h2, q⟩ => Kx.drop (M := M') ⟨C, fs, a, vs, M', G', e1, e2, s5.base, s5.mem, h1, h2, kx σ C fs M' q⟩⟩)
    (fun fl s' hs' => ?_) fun e s' hs' => hs'
  cases fl with
  | ret u => obtain ⟨v, σ', H', J, rv, q⟩ := hs'; exact fin J rv q
  | next => obtain ⟨σ', H', J, q⟩ := hs'; exact fin (v := .non) (u := .none) J rfl q
  | brk => obtain ⟨_, _, _, z⟩ := hs'; exact z.elim
  | cont => obtain ⟨_, _, _, z⟩ := hs'; exact z.elim))


theorem fa_pureX (F : FunD K x qual (defArgs st) (defBody st) (defScope st) dvs kws f fd) (S : FnScope N ps (defScope st)) (len : ∀ ds M Q E, sp ds M Q E → ds.length = ps.length) (hb : DefD P w K mg base N qual st f k t)
    (h : ∀ ds M Q E, sp ds M Q E → t (pureE M Q E) (startA N ds) M) : FA P w K mg base (k + 1) f fd ps sp :=
  fa_ghX F S len (fun cdv _ => hb cdv) fun ds M Q E q => ⟨_, h ds M Q E q, fun σ M' z => ⟨_, M, .drop z.1 _, z.2⟩, fun d M' z => fzD_gh z, fun _ _ z => z, fun _ _ z => z, fun σ C fs M' z => ⟨M, z⟩⟩
theorem bind2 {a b : Str} {dv : V} {params : Arguments} {body : List Stmt} {scope : Scope} (F : FunD K x qual params body scope [dv] [] f fd)
    (h : ∀ (T : Addr) (kV doc pm : Value) (an : Option Addr) (cdv ct : Value) (us its : List Value), us.length = 2 → its.length = [dv].length →
      ∃ k, bindArgs (PySem.W.fnOf x qual params body scope (.ref T) kV doc pm an cdv ct) ⟨us, []⟩ = seqItems? (.ref T) >>= k ∧ k (some its.toArray) = pure ([a, b].zip (us ++ its.drop 1))) :
    ∀ (s : Shared) (us ws : List Value), K.In s.heap → us.length = 2 → ws.length = ([] : List Str).length → BindsTo s fd ⟨us, ([] : List Str).zip ws⟩ ([a, b].zip (pick [0, 1] (us ++ ws))) := fun s us ws X h1 h2 => by
  obtain ⟨ds, hv, hb⟩ := FunD.binds1 (ps := [a, b]) F 2 1 (by simp) (by simp) h
  obtain rfl : ds = [] := by cases hv; rfl
  match us, ws, h1, h2 with
  | [u, v], [], _, _ => exact hb s [u, v] X rfl
end
end HA
/-! A39: defs with defaults, called with keywords, or with arguments left out -/
namespace HA
open PySem PySem.Spec L2
theorem rpa_app {K : PySem.W.Frag} {G : Hp} : ∀ {xs ys : List D} {vs us : List V}, RpA K G xs vs → RpA K G ys us → RpA K G (xs ++ ys) (vs ++ us)
  | _, _, _, _, .nil, h => h
  | _, _, _, _, .cons a b, h => .cons a (rpa_app b h)
/-- dd: what stands for the arguments left out -/
structure CalY (P : Program) (w : World) (K : PySem.W.Frag) (mg : Str → Option Value) (base : Heap) (k : Nat) (x : Str) (ps : List Str) (n : Nat) (ks : List Str) (dd : List D) (pm : List Nat) (sp : ASp) : Prop where
  ex : ∃ f fd, PySem.W.keepIn K (.ref f) = true ∧ mg x = some (.ref f) ∧ FA P w K mg base k f fd ps sp ∧ ∃ (dvs : List V) (its : List Value), Vals dvs its ∧ (∀ G, RpA K G dd dvs) ∧ ∀ (s : Shared) (us ws : List Value), K.In s.heap → us.length = n → ws.length = ks.length → BindsTo s fd ⟨us, ks.zip ws⟩ (ps.zip (pick pm (us ++ (ws ++ its))))
@[simp] def aCallD (sp : ASp) (n j : Nat) (dd : List D) (pm : List Nat) (ta tk : AA) : AE := fun σ M Q E => ta σ M (fun us M1 => tk σ M1 (fun ws M2 => us.length = n ∧ ws.length = j ∧ sp (pick pm (us ++ (ws ++ dd))) M2 Q (E σ)) E) E
section
variable {X : Cx} {B : Hp} {W : WX} {k n : Nat} {f C : Addr} {fd : FuncData} {ps ks : List Str} {sp : ASp} {pm : List Nat} {x m : Str} {p pos apos : Pos} {e o : Expr} {es : List Expr} {kws : List Keyword} {ta : AE} {tas tks : AA}
theorem run_faY {pins : List (Addr × Obj)} {s : Shared} {st : L2.St} {H : Hp} {us ws : List Value} {vs zs : List V} {G : Hp} {σ : AS} {M : Mem} {Q : DK} {E : AXs} {ds es' : List D} {R : VK} (F : FA X.prog X.w X.K X.mg X.base k f fd ps sp) (hr : Room k X.A) (hg : X.A.guards = some []) (tk : Takes X W)
    {kz : List (Str × Value)} (b : BindsTo s fd ⟨us, kz⟩ (ps.zip (pick pm (us ++ ws)))) (I : Inv X pins st H s) (ss : SS X.K B G σ M st H) (r : Vals vs us) (rz : Vals zs ws) (q1 : RpA X.K G ds vs) (q2 : RpA X.K G es' zs) (h : sp (pick pm (ds ++ es')) M Q (E σ))
    (kq : ∀ v H', Kv X.K G Q v H' → R v H') (kx : ∀ c d s' H', Wx X.K B E c d s' H' → W c d s' H') : wpAny (model X.prog X.w) X.A (call (.ref f) us kz) (EP X pins st R) X.xe s := (by exact HA.Wq.get : @HA.Wq (wpAny (model X.prog X.w) X.A (call (.ref f) us kz) (EP X pins st R) X.xe s) (by
  refine wpAny_call (codeAny_mono (F.run X.A X.stack s H _ _ (pick pm (vs ++ zs)) (pick pm (ds ++ es')) G M Q (E σ) hr hg I.env0 b (pick_vals (r.append rz) pm) ss.mem (pick_rp (q1.app q2) pm) h) fun r s' hq => ?_)
  cases r with
  | error z => exact tk z s' (XE.of_call I (fun cls d H' hk => kx _ _ _ _ (Wx.of ss hk)) hq)
  | ok fl =>
    cases fl with
    | ret u =>
      obtain ⟨v, H', I', rv, q⟩ := I.after hq
      exact ⟨v, H', I', rv, kq v H' q⟩
    | next => exact False.elim hq
    | brk => exact False.elim hq
    | cont => exact False.elim hq))

theorem qe_callY {dd : List D} {j : Nat} (c : CalY X.prog X.w X.K X.mg X.base k x ps n ks dd pm sp) (hr : Room k X.A) (hg : X.A.guards = some []) (tk : Takes X W) (ha : QA X B W (e :: es) tas) (hk : QK X B W kws tks) (hgl : Gl X x := by rfl) (hj : ks.length = j := by rfl)
    (hks : (backToKw pos (keywordEach kws X.env)).filterMap (·.1) = ks := by rfl) (hall : (backToKw pos (keywordEach kws X.env)).all (·.1.isSome) = true := by rfl)
    (hdb : (x == ("__debug__" : Str)) = false := by decide) (he : starEach (e :: es) X.env = (false, eval e X.env) :: starEach es X.env := by rfl)
    (hpl : ((backTo pos (starEach (e :: es) X.env)).any (·.1) || (backToKw pos (keywordEach kws X.env)).any (·.1.isNone)) = false := by rfl) : QE X B W (.Call (.Name x p) (e :: es) kws pos) (aCallD sp n j dd pm tas tks) := by
  obtain ⟨f, fd, hk0, hm, F, dvs, its, vd, rd, bn⟩ := c.ex
  subst hj
  refine ⟨fun pins s st' H R I ⟨G, σ, M, Q, E, ss, h, kq, kx⟩ => ?_⟩
  refine wpAny_Call_Name_kw (ld_glob I hgl hm ?_ hdb)
  refine PySem.W.callWith_KW (h₀ := X.base) I.ok.mod.kin hk0 hall (thn (ha.run pos pins s st' H (fun vs H1 => ∃ ds M1 G1, Same G G1 ∧ SM X.K G1 M1 H1 ∧ RpA X.K G1 ds vs ∧ _) I ⟨G, σ, M, _, E, ss, h, fun vs H1 ds M1 G1 e1 m1 r1 q1 => ⟨ds, M1, G1, e1, m1, r1, q1⟩, kx⟩) fun us s1 ⟨vs, H1, I1, r, ds, M1, G1, e1, m1, r1, q1⟩ => ?_) hpl he
  refine thn (hk.run pos pins s1 st' H1 (fun vs H2 => ∃ es' M2 G2, Same G1 G2 ∧ SM X.K G2 M2 H2 ∧ RpA X.K G2 es' vs ∧ _) I1 ⟨G1, σ, M1, _, E, ss.with e1 m1, q1, fun vs H2 ds M2 G2 e2 m2 r2 q2 => ⟨ds, M2, G2, e2, m2, r2, q2⟩, kx⟩) fun ws s2 ⟨zs, H2, I2, rz, es', M2, G2, e2, m2, r2, l1, l2, q2⟩ => ⟨I2.kIn, ?_⟩
  rw [hks]
  exact run_faY F hr hg tk (bn _ us ws I2.kIn (by rw [← r.length, ← r1.len]; exact l1) (by rw [← rz.length, ← r2.len]; exact l2)) I2 (ss.with (e1.trans e2) m2) r (rz.append vd) (r1.up e2) (rpa_app r2 (rd _)) q2 (fun v H' kv => kq v H' (kv.lift (e1.trans e2))) kx

theorem qe_callY0 {dd : List D} {j : Nat} (c : CalY X.prog X.w X.K X.mg X.base k x ps 0 ks dd pm sp) (hr : Room k X.A) (hg : X.A.guards = some []) (tk : Takes X W) (hk : QK X B W kws tks) (hgl : Gl X x := by rfl) (hj : ks.length = j := by rfl)
    (hks : (backToKw pos (keywordEach kws X.env)).filterMap (·.1) = ks := by rfl) (hall : (backToKw pos (keywordEach kws X.env)).all (·.1.isSome) = true := by rfl)
    (hdb : (x == ("__debug__" : Str)) = false := by decide)
    (hpl : ((backTo pos (starEach [] X.env)).any (·.1) || (backToKw pos (keywordEach kws X.env)).any (·.1.isNone)) = false := by rfl) : QE X B W (.Call (.Name x p) [] kws pos) (aCallD sp 0 j dd pm aNil tks) := by
  obtain ⟨f, fd, hk0, hm, F, dvs, its, vd, rd, bn⟩ := c.ex
  subst hj
  refine ⟨fun pins s st' H R I ⟨G, σ, M, Q, E, ss, h, kq, kx⟩ => ?_⟩
  refine wpAny_Call_Name_kw (ld_glob I hgl hm ?_ hdb)
  refine PySem.W.callWith_KW0 (h₀ := X.base) I.ok.mod.kin hk0 hall ?_ hpl
  refine thn (hk.run pos pins s st' H (fun vs H2 => ∃ es' M2 G2, Same G G2 ∧ SM X.K G2 M2 H2 ∧ RpA X.K G2 es' vs ∧ _) I ⟨G, σ, M, _, E, ss, h, fun vs H2 ds M2 G2 e2 m2 r2 q2 => ⟨ds, M2, G2, e2, m2, r2, q2⟩, kx⟩) fun ws s2 ⟨zs, H2, I2, rz, es', M2, G2, e2, m2, r2, l1, l2, q2⟩ => ⟨I2.kIn, ?_⟩
  rw [hks]
  exact run_faY (us := []) (vs := []) (ds := []) F hr hg tk (bn _ [] ws I2.kIn rfl (by rw [← rz.length, ← r2.len]; exact l2)) I2 (ss.with e2 m2) .nil (rz.append vd) .nil (rpa_app r2 (rd _)) q2 (fun v H' kv => kq v H' (kv.lift e2)) kx
end
/-- the binding of a def with defaults, dvs: those behind the first j fill up -/
theorem bindY {K : PySem.W.Frag} {x qual : Str} {params : Arguments} {body : List Stmt} {scope : Scope} {f : Addr} {fd : FuncData} {dvs : List V} {ps ks : List Str} {pm : List Nat} {n : Nat} (j : Nat) (F : FunD K x qual params body scope dvs [] f fd) (hd : dvs ≠ [])
    (h : ∀ (T : Addr) (kV doc pmv : Value) (an : Option Addr) (cdv ct : Value) (us ws its : List Value), us.length = n → ws.length = ks.length → its.length = dvs.length →
      ∃ k, bindArgs (PySem.W.fnOf x qual params body scope (.ref T) kV doc pmv an cdv ct) ⟨us, ks.zip ws⟩ = seqItems? (.ref T) >>= k ∧ k (some its.toArray) = pure (ps.zip (pick pm (us ++ (ws ++ its.drop j))))) :
    ∃ its : List Value, Vals (dvs.drop j) its ∧ ∀ (s : Shared) (us ws : List Value), K.In s.heap → us.length = n → ws.length = ks.length → BindsTo s fd ⟨us, ks.zip ws⟩ (ps.zip (pick pm (us ++ (ws ++ its)))) := (by exact HA.Wq.get : @HA.Wq (∃ its : List Value, Vals (dvs.drop j) its ∧ ∀ (s : Shared) (us ws : List Value), K.In s.heap → us.length = n → ws.length = ks.length → BindsTo s fd ⟨us, ks.zip ws⟩ (ps.zip (pick pm (us ++ (ws ++ its))))) (by
  obtain ⟨oc, od, dV, kV, doc, pmv, an, cdv, ct, osl, rfl, lk, hcd, hD, hK⟩ := F.ex
  rcases hD with ⟨e, _⟩ | ⟨_, T, o, its, m, rfl, lT, oT, rT⟩
  · exact absurd e hd
  · refine ⟨its.drop j, rT.drop j, fun s us ws X h1 h2 => ?_⟩
    obtain ⟨k, e1, e2⟩ := h T kV doc pmv an cdv ct us ws its h1 h2 rT.length.symm
    refine BindsTo.of_looks fun M => ?_
    rw [e1]
    exact looks_items X lT oT (.of_pure e2)))
/-- a def with defaults, as the module holds it -/
structure CalD (P : Program) (w : World) (K : PySem.W.Frag) (mg : Str → Option Value) (base : Heap) (k : Nat) (x : Str) (st : Stmt) (dvs : List V) (ps : List Str) (sp : ASp) : Prop where
  ex : ∃ f fd, FunD K x x (defArgs st) (defBody st) (defScope st) dvs [] f fd ∧ mg x = some (.ref f) ∧ FA P w K mg base k f fd ps sp
/-- how a call binds: n by position, ks by keywords, the defaults behind the first j fill up -/
def BdZ (x : Str) (st : Stmt) (nd : Nat) (ps : List Str) (n : Nat) (ks : List Str) (j : Nat) (pm : List Nat) : Prop := ∀ (T : Addr) (kV doc pmv : Value) (an : Option Addr) (cdv ct : Value) (us ws its : List Value), us.length = n → ws.length = ks.length → its.length = nd →
  ∃ k, bindArgs (PySem.W.fnOf x x (defArgs st) (defBody st) (defScope st) (.ref T) kV doc pmv an cdv ct) ⟨us, ks.zip ws⟩ = seqItems? (.ref T) >>= k ∧ k (some its.toArray) = pure (ps.zip (pick pm (us ++ (ws ++ its.drop j))))
theorem CalD.y {P : Program} {w : World} {K : PySem.W.Frag} {mg : Str → Option Value} {base : Heap} {k n j : Nat} {x : Str} {st : Stmt} {dvs : List V} {ps ks : List Str} {dd : List D} {pm : List Nat} {sp : ASp} (c : CalD P w K mg base k x st dvs ps sp) (hd : dvs ≠ []) (b : BdZ x st dvs.length ps n ks j pm) (rd : ∀ G, RpA K G dd (dvs.drop j)) : CalY P w K mg base k x ps n ks dd pm sp := by
  obtain ⟨f, fd, F, hm, A⟩ := c.ex
  obtain ⟨its, hv, hb⟩ := bindY j F hd b
  exact ⟨f, fd, F.kp, hm, A, _, its, hv, rd, hb⟩
theorem i_callD {M : Mem} {Q : DK} {E : AXs} {σ : AS} {tas tk : AA} {sp : ASp} {n j : Nat} {dd : List D} {pm : List Nat} (h : tas σ M (fun us M1 => tk σ M1 (fun ws M2 => us.length = n ∧ ws.length = j ∧ sp (pick pm (us ++ (ws ++ dd))) M2 Q (E σ)) E) E) : aCallD sp n j dd pm tas tk σ M Q E := h
theorem i_clD {us ws dd ds : List D} {n j : Nat} {pm : List Nat} {sp : ASp} {M : Mem} {Q : DK} {X : AX} (h1 : us.length = n) (h2 : ws.length = j) (e : pick pm (us ++ (ws ++ dd)) = ds) (h : sp ds M Q X) : us.length = n ∧ ws.length = j ∧ sp (pick pm (us ++ (ws ++ dd))) M Q X := ⟨h1, h2, by rw [e]; exact h⟩
end HA
/-! A40: len(set(xs)) of ints that are all unlike; ranges as values; ranges of great numbers. -/
namespace HA
open PySem PySem.Spec PyProof.Rows L2
section
variable {X : Cx} {B : Hp} {W : WX} {a b c e o tg : Expr} {ta tb te : AE} {tas : AA} {pos p p2 p3 : Pos}
/-- len(set(xs)) -/
def aLenSet (ta : AE) : AE := fun σ M Q E => ta σ M (fun x M1 => ∃ ns : List Int, LsAt M1 x (ns.map D.int) ∧ ns.Nodup ∧ ns.length ≤ 4000 ∧ Q (.int ns.length) M1) E
theorem qe_lenSet (hg : Gl X "len") (hm : X.mg "len" = none) (hg2 : Gl X "set") (hm2 : X.mg "set" = none) (ha : QE X B W a ta) (hc : X.calm = true := by rfl)
    (na : starEach [a] X.env = (false, eval a X.env) :: starEach [] X.env := by rfl) : QE X B W (.Call (.Name "len" p) [.Call (.Name "set" p2) [a] [] p3] [] pos) (aLenSet ta) := ⟨fun pins s sc H R I ⟨G, σ, M, Q, E, ss, h, k, kx⟩ => by
  refine Call_ (ld_blt I hg hm boot_len ?_)
  refine callWith_builtin1 (args_cons ?_ rfl) rfl rfl
  refine Call_ (ld_blt I hg2 hm2 boot_set ?_)
  refine callWith_type1 (args_cons (thn (ha.run pins s sc H (Kv X.K G fun x M1 => ∃ ns : List Int, LsAt M1 x (ns.map D.int) ∧ ns.Nodup ∧ ns.length ≤ 4000 ∧ Q (.int ns.length) M1) I ⟨G, σ, M, _, E, ss, h, fun v H' kv => kv, kx⟩) fun v s1 ⟨x, H1, I1, r1, d, M1, G1, e1, m1, rd, q⟩ => args_nil ?_) na) na rfl
  obtain ⟨ns, h1, hnd, hl, q1⟩ := q
  refine lsAt m1 rd h1 fun l ws e pl t => ?_
  have ew := t.of_ints
  subst ew
  subst e
  cases r1
  obtain ⟨its, r, pl, hz⟩ := I1.list pl
  have hlen : its.toArray.size = ns.length := by rw [List.size_toArray, ← r.length, List.length_map]
  refine call_set_list (I1.ok.hd hc) pl.isList (by simpa using RZ.intsAre_vals r) (by rw [hlen]; unfold scanBound; omega) fun h' tk hS hk => ?_
  refine args_nil ?_
  rw [hlen, RZ.firstMet_nodup hnd ns.length (Nat.le_refl _), List.take_length] at hS
  obtain ⟨o, es, ep, t, ho, hex, hd, _, _, _, hf, hn⟩ := hS
  have I2 : Inv X pins sc H1 { s1 with heap := h', toks := tk } := I1.kept fun b o e => hk b o (Heap.lt_size e) e
  exact call_len_set ho hex hd hf (by rw [hn] <;> omega) ⟨.int ns.length, H1, I2.tok _, ⟨_, by rw [hn]⟩, k _ _ ⟨.int ns.length, M1, G1, e1, m1, .int _, q1⟩⟩⟩
/-- range(a, b) as a value -/
def cRng : AC := fun xs M Q => match xs with
  | [.int i, .int j] => ∀ p, M p = none → Q (.ref p) (mset M p (.rng i j))
  | _ => False
theorem ct_range : CallT X "range" cRng := ⟨_, cr_range2, fun G M H xs vs Q R m r h k => by
  unfold cRng at h
  split at h
  · obtain ⟨v, w, rfl, ra, rb⟩ := rpa2 r
    cases ra; cases rb
    exact ⟨_, _, rfl, fun p hp => k _ _ ⟨_, _, G, .refl _, m.new hp (show COk _ _ _ _ (.rng _ _) from upd_same), .ref _, h p (m.free hp).2⟩⟩
  · exact h.elim⟩
theorem bT_range : bootBuiltins "range" = some (.type "range") := by decide +kernel
theorem small_big {a b : Int} (ha : -(2 ^ 63) ≤ a) (ha' : a < 2 ^ 63) (hb : -(2 ^ 63) ≤ b) (hb' : b < 2 ^ 63) (h : b - a < 2 ^ 63) : Builtin.Range.small a b 1 = true := (by exact HA.Wq.get : @HA.Wq (Builtin.Range.small a b 1 = true) (by
  unfold Builtin.Range.small
  rw [rangeSize_one]
  simp only [Builtin.Range.rangeFitsLong, Bool.and_eq_true, Bool.or_eq_true, decide_eq_true_eq, beq_iff_eq, show (1 : Int) > 0 by decide, if_true]
  split <;> omega))
def BigR (i j : Int) : Prop := -(2 ^ 63) ≤ i ∧ i < 2 ^ 63 ∧ -(2 ^ 63) ≤ j ∧ j < 2 ^ 63 ∧ j - i < 2 ^ 63
theorem BigR.mk {i j : Int} (h0 : 0 ≤ i) (h1 : i < 9223372036854775808) (h2 : 0 ≤ j) (h3 : j < 9223372036854775808) : BigR i j := by unfold BigR; omega
theorem range_itB {pins : List (Addr × Obj)} {σ : L2.St} {H : Hp} {s : Shared} {R : It → Hp → Prop} {E : Value → Shared → Prop} {r : Addr} {lo hi : Int} {t u v : Tok} (I : Inv X pins σ H s) (hr : IsRange s.heap r lo hi 1 t u v) (c : BigR lo hi)
    (q : R (Itr lo (hi - lo).toNat) H) : wpAny (model X.prog X.w) X.A (pyIter (.ref r)) (PIE X pins σ tg R) E s := (by exact HA.Wq.get : @HA.Wq (wpAny (model X.prog X.w) X.A (pyIter (.ref r)) (PIE X pins σ tg R) E s) (by
  obtain ⟨c1, c2, c3, c4, c5⟩ := c
  refine wpAny_pyIter_range hr (small_big c1 c2 c3 c4 c5) ?_
  refine ⟨s.heap.objs.size, [s.heap.objs.size], _, _, H, rfl,
    I.kept (t' := s.toks) fun b o e => Heap.get?_push_of_some _ e, turn_range _ lo (hi - lo).toNat, ?_, fun b hb => ?_, q⟩
  · have e1 : lo + ((0 : Nat) : Int) * 1 = lo := by simp
    have e2 : (((hi - lo).toNat : Nat) : Int) - ((0 : Nat) : Int) = Builtin.Range.rangeSize lo hi 1 := by rw [rangeSize_one]; split <;> omega
    show IsRangeIter _ _ (lo + ((0 : Nat) : Int) * 1) ((((hi - lo).toNat : Nat) : Int) - ((0 : Nat) : Int)) 1
    rw [e1, e2]
    exact Heap.get?_push_size _ rfl
  · have e : b = s.heap.objs.size := by simpa using hb
    subst e
    exact I.fpOk (Nat.le_refl _) (I.hok.fresh (Nat.le_refl _))))
/-- a range object walked -/
def aWalkR (te : AE) : AI := fun σ M Q E => te σ M (fun x M1 => ∃ p i j, x = .ref p ∧ M1 p = some (.rng i j) ∧ BigR i j ∧ Q (rangeD i (j - i).toNat) (fun _ => True) M1) E
theorem qi_rngv (he : QE X B W e te) : QI X B W tg e (aWalkR te) := ⟨fun pins s sc H R I ⟨G, σ, M, Q, E, ss, h, k, kx⟩ => by
  refine thn (he.run pins s sc H (Kv X.K G fun x M1 => ∃ p i j, x = .ref p ∧ M1 p = some (.rng i j) ∧ BigR i j ∧ Q (rangeD i (j - i).toNat) (fun _ => True) M1) I ⟨G, σ, M, _, E, ss, h, fun v H' kv => kv, kx⟩) fun v s1 ⟨x, H1, I1, r1, d, M1, G1, e1, m1, rd, q⟩ => ?_
  obtain ⟨p, i, j, rfl, hp, hb, q⟩ := q
  cases rd
  cases r1
  obtain ⟨t, u, w, hr⟩ := I1.hok p _ ((m1.cell p _ hp).2 : H1 p = some (.rng i j))
  exact range_itB I1 hr hb (k _ H1 _ _ M1 G1 e1 m1 (itok_range i _) q)⟩
/-- range(a, b) walked in place, of numbers up to 2 ** 63 -/
def aRng2B (ta : AA) : AI := fun σ M Q E => ta σ M (fun xs M1 => match xs with
  | [.int i, .int j] => BigR i j ∧ Q (rangeD i (j - i).toNat) (fun _ => True) M1
  | _ => False) E
theorem qi_range2B (hg : Gl X "range") (hm : X.mg "range" = none) (ha : QA X B W [a, b] tas) (hs : starEach [a, b] X.env = [(false, eval a X.env), (false, eval b X.env)] := by rfl) (hs2 : starEach [b] X.env = [(false, eval b X.env)] := by rfl) : QI X B W tg (.Call (.Name "range" p) [a, b] [] pos) (aRng2B tas) := ⟨fun pins s sc H R I ⟨G, σ, M, Q, E, ss, h, k, kx⟩ => by
  refine Call_ (ld_blt I hg hm boot_range (callWith_type1 (thn (ha.run pos pins s sc H (fun vs H1 => ∃ i j : Int, vs = [.int i, .int j] ∧ BigR i j ∧ R (Itr i (j - i).toNat) H1) I ⟨G, σ, M, _, E, ss, h, fun vs H1 xs M1 G1 e1 m1 r1 q => by
      match xs, q with
      | [.int i, .int j], q =>
        obtain ⟨v, w, rfl, ra, rb⟩ := rpa2 r1
        cases ra; cases rb
        exact ⟨i, j, rfl, q.1, k _ H1 _ _ M1 G1 e1 m1 (itok_range i _) q.2⟩, kx⟩) fun us s1 ⟨vs, H1, I1, r1, q1⟩ => ?_) (by rw [hs, hs2]) (by rw [hs2]; rfl)))
  obtain ⟨i, j, rfl, q1, q⟩ := q1
  cases r1 with
  | cons r rr =>
    cases rr with
    | cons r' rr =>
      cases rr
      obtain ⟨t, rfl⟩ := r
      obtain ⟨t', rfl⟩ := r'
      refine call_range_2 ?_
      have I2 : Inv X pins sc H1 { s1 with heap := s1.heap.push { cls := .type "range", data := .fields #[.int i t, .int j t', .int 1 s1.toks] }, toks := s1.toks + 1 } := I1.kept fun b o e => Heap.get?_push_of_some _ e
      exact range_itB I2 (IsRange.new _ _ _ _ _ _ _) q1 q⟩
section
variable {ta' : AA} {σ : AS} {M : Mem} {Q : DK} {E : AXs} {ns : List Int} {i j : Int} {p : Addr}
theorem i_lenSet (h : ta σ M (fun x M1 => ∃ ns : List Int, LsAt M1 x (ns.map D.int) ∧ ns.Nodup ∧ ns.length ≤ 4000 ∧ Q (.int ns.length) M1) E) : aLenSet ta σ M Q E := h
theorem i_rngV (h : ∀ p, M p = none → Q (.ref p) (mset M p (.rng i j))) : cRng [.int i, .int j] M Q := h
def wkRK (Q : List D → (Mem → Prop) → Mem → Prop) : DK := fun x M1 => ∃ p i j, x = .ref p ∧ M1 p = some (.rng i j) ∧ BigR i j ∧ Q (rangeD i (j - i).toNat) (fun _ => True) M1
theorem i_wkR {Q : List D → (Mem → Prop) → Mem → Prop} (h : te σ M (wkRK Q) E) : aWalkR te σ M Q E := h
theorem i_wkRK {Q : List D → (Mem → Prop) → Mem → Prop} (hp : M p = some (.rng i j)) (c : BigR i j) (h : Q (rangeD i (j - i).toNat) (fun _ => True) M) : wkRK Q (.ref p) M := ⟨p, i, j, rfl, hp, c, h⟩
def rngK2B (Q : List D → (Mem → Prop) → Mem → Prop) : List D → Mem → Prop := fun xs M1 => match xs with
  | [.int i, .int j] => BigR i j ∧ Q (rangeD i (j - i).toNat) (fun _ => True) M1
  | _ => False
theorem i_rg2B {Q : List D → (Mem → Prop) → Mem → Prop} (h : ta' σ M (rngK2B Q) E) : aRng2B ta' σ M Q E := h
theorem i_rk2B {Q : List D → (Mem → Prop) → Mem → Prop} (c : BigR i j) (h : Q (rangeD i (j - i).toNat) (fun _ => True) M) : rngK2B Q [.int i, .int j] M := ⟨c, h⟩
end
end
end HA
/-! A41: deals over fifty cells of the script; more steps: in, max. -/
namespace HA
open PySem PySem.Spec L2
def gSrc2 (ti : AE) (md k : Int) : ASt :=
  aSeq (aAsg (aLcF (aWalk (aSlF (aVar 0) (aPart (aVar 1)) (aPart (aOp bAddF (aVar 1) (aC (.int 50)))))) (agName 2) aYes (aCB (c1I absI) (aCons (aVar 2) aNil)) [2]) (agName 3))
    (aSeq (aAsg ti (agName 4))
      (aSeq (aFor (aWalk (aVar 3)) (agName 2) (aAsg (aOp oMod (aCB cInt (aCons (aOp bAddF (aOp bAddF (aOp oMul (aVar 4) (aC (.int 48271))) (aOp oMod (aCB cInt (aCons (aVar 2) aNil)) (aC (.int md)))) (aC (.int k))) aNil)) (aC (.int 2147483647))) (agName 4)))
        (aRet (aLst (aCons (aRev (aLcF (aWalk (aVar 3)) (agName 2) (aTest (aOp oGe (aVar 2) (aOp oPow (aC (.int 10)) (aC (.int 18))))) (aVar 2) [2])) (aCons (aVar 4) aNil))))))
theorem v_src2 (ti : AE) (md k : Int) (hmd : 0 < md) (hti : ∀ ns b cs M Q E, 0 ≤ b → b < 1000 → (∀ i : Int, 0 ≤ i → i < 2147483647 → Q (.int i) M) → ti [some (.frz ns), some (.int b), none, some cs, none] M Q E) :
    ∀ ds M Q E, spSrcT ds M Q E → gSrc2 ti md k (anyE Q E) (startA ["script", "base", "cell", "cells", "blend"] ds) M := (by exact HA.Wq.get : @HA.Wq (∀ ds M Q E, spSrcT ds M Q E → gSrc2 ti md k (anyE Q E) (startA ["script", "base", "cell", "cells", "blend"] ds) M) (by
  intro ds M Q E ⟨ns, b, h, hl, hbd, hb, q⟩
  subst h
  obtain ⟨ms, hcut, hml, hmz⟩ : ∃ ms : List Int, cut (ns.map D.int) (some b) (some (b + 50)) = ms.map D.int ∧ ms.length ≤ 63 ∧ ∀ z ∈ ms, z ∈ ns := by
    refine ⟨(ns.drop b.toNat).take ((b + 50).toNat - b.toNat), ?_, ?_, fun z hz => List.mem_of_mem_drop (List.mem_of_mem_take hz)⟩
    · rw [cut_ij (by omega) (by omega), List.map_take, List.map_drop]
    · rw [List.length_take, List.length_drop]; omega
  unfold gSrc2
  refine ⟨_, rfl, _, rfl, ?_⟩
  refine lcF_fold (xs := cut (ns.map D.int) (some b) (some (b + 50))) (fun _ _ => ?_) (by rw [hcut]; simp; exact sz_le (by omega)) (fun pre acc => ∃ zs : List Int, pre = zs.map D.int ∧ acc = (zs.map absI).map D.int) ⟨[], rfl, rfl⟩ ?_ ?_
  · trivial
  · rintro pre x rest acc M' e ⟨zs, rfl, rfl⟩ hM
    rw [hcut] at e
    obtain ⟨ps, n, rs, e1, e2, rfl, e4⟩ := map_split e
    refine ⟨fun _ => ⟨rfl, zs ++ [n], by simp, by simp⟩, fun z => (by cases z)⟩
  rw [hcut]
  rintro acc ⟨zs, e, rfl⟩
  have e : ms = zs := by
    have := congrArg (List.map fun d => match d with | D.int i => i | _ => 0) e
    simpa [List.map_map, Function.comp_def] using this
  subst e
  refine hti _ _ _ _ _ _ hb.1 hb.2 fun i hi0 hi1 => ?_
  have hcs : ∀ z ∈ ms.map absI, 0 ≤ z ∧ z.natAbs < 2 ^ big := fun z hz => by
    obtain ⟨y, hy, rfl⟩ := List.mem_map.mp hz
    exact ⟨absI_ok.1, by rw [absI_ok.2]; exact hbd y (hmz y hy)⟩
  have hlc : (ms.map absI).length ≤ 63 := by simpa using hml
  generalize ms.map absI = cs at hcs hlc
  refine ⟨_, rfl, ?_⟩
  refine for_fold (xs := cs.map D.int) (fun pre σ M' => M' = M ∧ ∃ (i : Int) (o : Option D), (0 ≤ i ∧ i < 2147483647) ∧ σ = [some (.frz (ns.map D.int)), some (.int b), o, some (.lst (cs.map D.int)), some (.int i)]) ⟨rfl, i, none, ⟨hi0, hi1⟩, rfl⟩ ?_ ?_
  · rintro pre x rest e σ M' ⟨hM, i, o, hi, hσ⟩
    subst hσ
    obtain ⟨ps, n, rs, e1, e2, rfl, e4⟩ := map_split e
    refine ⟨trivial, MulOk.right (by decide) (by decide), hmd, (by show (0 : Int) < 2147483647; decide), hM, _, _, ⟨Int.emod_nonneg _ (by decide), Int.emod_lt_of_pos _ (by decide)⟩, rfl⟩
  · rintro σ M' ⟨hM, i, o, hi, hσ⟩
    subst hσ
    subst hM
    refine ⟨trivial, _, rfl, ?_⟩
    refine lcF_fold (xs := cs.map D.int) (fun _ _ => ?_) (by simp; exact sz_le (by omega)) (fun pre acc => ∃ zs : List Int, acc = zs.map D.int ∧ zs.length ≤ pre.length ∧ ∀ z ∈ zs, z ∈ cs) ⟨[], rfl, by simp, by simp⟩ ?_ ?_
    · trivial
    · rintro pre x rest acc M2 e ⟨zs, rfl, hz1, hz2⟩ hM
      obtain ⟨ps, n, rs, e1, e2, rfl, e4⟩ := map_split e
      refine ⟨pow18, fun _ => ⟨rfl, zs ++ [n], by simp, by simp; omega, fun z hz => ?_⟩, fun _ => ⟨rfl, zs, rfl, by simp; omega, hz2⟩⟩
      rcases List.mem_append.mp hz with hz | hz
      · exact hz2 z hz
      · rw [List.mem_singleton] at hz; subst hz; rw [e1]; simp
    · rintro acc ⟨zs, rfl, hz1, hz2⟩
      refine ⟨_, rfl, fun l hl0 => ⟨sz_le (by simp), fun a ha0 => ?_⟩⟩
      have nal : a ≠ l := fun z => by subst z; rw [mset_same] at ha0; cases ha0
      have ha1 : M' a = none := by rw [mset_ne nal] at ha0; exact ha0
      refine ⟨_, .refl _, q a l i zs.reverse _ nal ha1 hl0 (.new2 ha0 (.new hl0)) mset_same ?_ ⟨?_, fun z hz => hcs z (hz2 z (by simpa using hz))⟩ hi.1 hi.2⟩
      · rw [mset_ne (Ne.symm nal), mset_same, List.map_reverse]
      · simp at hz1 ⊢; omega))

section
variable {M : Mem} {Q : DK} {ns : List Int} {v : Int} {p : Addr}
theorem inD_ints : inV (fv (.int v)) ((ns.map D.int).map fv) = decide (v ∈ ns) := (by exact HA.Wq.get : @HA.Wq (inV (fv (.int v)) ((ns.map D.int).map fv) = decide (v ∈ ns)) (by
  induction ns with
  | nil => rfl
  | cons x r ih =>
    have e : inV (fv (.int v)) (((x :: r).map D.int).map fv) = (decide (x = v) || inV (fv (.int v)) ((r.map D.int).map fv)) := rfl
    rw [e, ih]
    by_cases h : x = v
    · simp [h]
    · have h2 : ¬ v = x := fun y => h y.symm
      simp [h, h2]))
theorem flatD_ints : (ns.map D.int).all flat = true := by
  rw [List.all_eq_true]; intro x hx; obtain ⟨i, _, rfl⟩ := List.mem_map.mp hx; rfl
theorem i_inL (h : Q (.bl (decide (v ∈ ns))) M) : bIn false (.int v) (lI ns) M Q := ⟨rfl, ns.map D.int, .inr rfl, flatD_ints, by rw [inD_ints]; exact h⟩
theorem i_ninL (h : Q (.bl (!decide (v ∈ ns))) M) : bIn true (.int v) (lI ns) M Q := ⟨rfl, ns.map D.int, .inr rfl, flatD_ints, by rw [inD_ints]; exact h⟩
theorem i_inT (h : Q (.bl (decide (v ∈ ns))) M) : bIn false (.int v) (tI ns) M Q := ⟨rfl, ns.map D.int, .inl rfl, flatD_ints, by rw [inD_ints]; exact h⟩
theorem i_ninT (h : Q (.bl (!decide (v ∈ ns))) M) : bIn true (.int v) (tI ns) M Q := ⟨rfl, ns.map D.int, .inl rfl, flatD_ints, by rw [inD_ints]; exact h⟩
theorem i_inR (hp : M p = some (.lst (ns.map .int))) (h : Q (.bl (decide (v ∈ ns))) M) : bIn false (.int v) (.ref p) M Q := ⟨rfl, ns.map D.int, .inr hp, flatD_ints, by rw [inD_ints]; exact h⟩
theorem i_ninR (hp : M p = some (.lst (ns.map .int))) (h : Q (.bl (!decide (v ∈ ns))) M) : bIn true (.int v) (.ref p) M Q := ⟨rfl, ns.map D.int, .inr hp, flatD_ints, by rw [inD_ints]; exact h⟩
end
end HA
/-! A42: a list times an int as a new list; tables stay where objects change. -/
namespace HA
open PySem PySem.Spec L2
def bRepL : A2 := fun x y M Q => match x, y with
  | .lst xs, .int k => (-(2 ^ 62) ≤ k ∧ k ≤ 100000) ∧ xs.length ≤ 100 ∧ ∀ p, M p = none → Q (.ref p) (mset M p (.lst (List.replicate k.toNat xs).flatten))
  | _, _ => False
theorem bRepL_ok {K : PySem.W.Frag} : OkR K bRepL rRep := fun G M H x y xv yv Q R m rx ry h k => by
  unfold bRepL at h
  split at h
  · rename_i xs n
    obtain ⟨h1, h2, h3⟩ := h
    cases ry
    cases rx with
    | lst g t =>
      rename_i a vs
      have hl := t.len
      refine ⟨a, n, vs, rfl, rfl, m.same _ _ g, by omega, by omega, ?_, fun p hp => Kv.lst m k (t.rep _) hp h3⟩
      rw [sizeLine_eq, ← hl]
      have : n.toNat ≤ 100000 := by omega
      exact Nat.le_trans (Nat.mul_le_mul h2 this) (by decide)
  · exact h.elim
section
variable {X : Cx} {B : Hp} {W : WX} {a b : Expr} {ta tb : AE} {pos : Pos}
theorem qe_rep (ha : QE X B W a ta) (hb : QE X B W b tb) : QE X B W (.BinOp a .Mult b pos) (aOp bRepL ta tb) := qe_op op_rep bRepL_ok ha hb
end
section
variable {M : Mem} {Q : DK} {d : D} {n : Nat} {i : Int}
theorem flat_rep1 : (List.replicate n [d]).flatten = List.replicate n d := by
  induction n with
  | zero => rfl
  | succ n ih => rw [List.replicate_succ, List.flatten_cons, ih]; rfl
theorem i_rep1 (c : -(2 ^ 62) ≤ i ∧ i ≤ 100000) (h : ∀ p, M p = none → Q (.ref p) (mset M p (.lst (List.replicate i.toNat d)))) : bRepL (.lst [d]) (.int i) M Q := ⟨c, by simp, by rw [flat_rep1]; exact h⟩
theorem i_rep1I {k : Int} (c : -(2 ^ 62) ≤ i ∧ i ≤ 100000) (h : ∀ p, M p = none → Q (.ref p) (mset M p (.lst (List.replicate i.toNat (.int k))))) : bRepL (lI [k]) (.int i) M Q := i_rep1 c h
end
theorem TabM.set {z : Wd} {M : Mem} {a : Addr} {c d : Cell} (h : TabM z M) (ha : M a = some d) (hd : ∀ q, d ≠ .tab q) : TabM z (mset M a c) := fun i => by
  rw [mset_ne (fun e => by subst e; rw [h i] at ha; injection ha with ha; exact hd _ ha.symm)]; exact h i
theorem TabM.ins {z : Wd} {M : Mem} {a C : Addr} {fs : List (Str × D)} {c : Cell} (h : TabM z M) (ha : M a = some (.ins C fs)) : TabM z (mset M a c) := h.set ha fun q e => nomatch e
theorem TabM.lst {z : Wd} {M : Mem} {a : Addr} {xs : List D} {c : Cell} (h : TabM z M) (ha : M a = some (.lst xs)) : TabM z (mset M a c) := h.set ha fun q e => nomatch e
end HA
/-! PC: words, ChaCha20's rounds: plain law, what each def promises -/
namespace Sh
open PySem PySem.Spec L2 HA PyProof.Rows
theorem and_dis {a y k : Nat} (h : y < 2 ^ k) : (a * 2 ^ k) &&& y = 0 := (by exact HA.Wq.get : @HA.Wq ((a * 2 ^ k) &&& y = 0) (by
  apply Nat.eq_of_testBit_eq
  intro i
  rw [Nat.testBit_and, Nat.zero_testBit, Nat.testBit_mul_two_pow]
  by_cases hi : k ≤ i
  · have : y.testBit i = false := Nat.testBit_lt_two_pow (Nat.lt_of_lt_of_le h (Nat.pow_le_pow_right (by decide) hi))
    rw [this, Bool.and_false]
  · simp [hi]))
theorem or_dis {a y : Nat} {k : Nat} (h : y < 2 ^ k) : Builtin.bitOr ((a * 2 ^ k : Nat) : Int) (y : Int) = ((a * 2 ^ k + y : Nat) : Int) := by
  rw [bitOr_and, PySem.W.os_band, and_dis h]
  omega
theorem bit2 (n : Nat) : n % 2 = (n.testBit 0).toNat := (by exact HA.Wq.get : @HA.Wq (n % 2 = (n.testBit 0).toNat) (by
  rw [Nat.testBit_zero]
  rcases Nat.mod_two_eq_zero_or_one n with h | h
  · rw [h]; rfl
  · rw [h]; rfl))
theorem bool_sum (p q : Bool) : (p ^^ q).toNat + 2 * (p && q).toNat = p.toNat + q.toNat := by cases p <;> cases q <;> rfl
theorem xor_sum : ∀ a b : Nat, (a ^^^ b) + 2 * (a &&& b) = a + b := (by exact HA.Wq.get : @HA.Wq (∀ a b : Nat, (a ^^^ b) + 2 * (a &&& b) = a + b) (by
  intro a
  induction a using Nat.strongRecOn with
  | _ a ih =>
    intro b
    by_cases h0 : a = 0
    · subst h0; simp
    · have i := ih (a / 2) (by omega) (b / 2)
      have x1 : (a ^^^ b) / 2 = a / 2 ^^^ b / 2 := Nat.xor_div_two
      have x2 : (a &&& b) / 2 = a / 2 &&& b / 2 := Nat.and_div_two
      have m1 : (a ^^^ b) % 2 = (a.testBit 0 ^^ b.testBit 0).toNat := by rw [bit2, Nat.testBit_xor]
      have m2 : (a &&& b) % 2 = (a.testBit 0 && b.testBit 0).toNat := by rw [bit2, Nat.testBit_and]
      have ma := bit2 a
      have mb := bit2 b
      have bs := bool_sum (a.testBit 0) (b.testBit 0)
      rw [← x1, ← x2] at i
      omega))
theorem xorN (a b : Nat) : Builtin.bitXor (a : Int) (b : Int) = ((a ^^^ b : Nat) : Int) := by
  rw [bitXor_and, PySem.W.os_band]
  have := xor_sum a b
  omega
/-- a word turned left -/
def rotl (d k : Nat) : Nat := d * 2 ^ k % 2 ^ 32 + d / 2 ^ (32 - k)
theorem rotl_lt {d k : Nat} (h : d < 2 ^ 32) (hk : k ≤ 32) : rotl d k < 2 ^ 32 := (by exact HA.Wq.get : @HA.Wq (rotl d k < 2 ^ 32) (by
  unfold rotl
  have e : (2 : Nat) ^ 32 = 2 ^ (32 - k) * 2 ^ k := by rw [← Nat.pow_add]; congr 1; omega
  have h1 : d / 2 ^ (32 - k) < 2 ^ k := Nat.div_lt_of_lt_mul (by rw [← e]; exact h)
  have h2 : d * 2 ^ k % 2 ^ 32 = (d % 2 ^ (32 - k)) * 2 ^ k := by rw [e, Nat.mul_mod_mul_right]
  have h3 := Nat.mod_lt d (Nat.two_pow_pos (32 - k))
  rw [h2, e]
  have := Nat.mul_le_mul_right (2 ^ k) (show d % 2 ^ (32 - k) + 1 ≤ 2 ^ (32 - k) by omega)
  rw [Nat.add_mul, Nat.one_mul] at this
  omega))
/-- the program's way to turn -/
theorem rot_prog {d k : Nat} (h : d < 2 ^ 32) (hk : k ≤ 32) : Builtin.bitOr (Builtin.bitAnd ((d : Int) * 2 ^ k) 4294967295) ((d : Int) / 2 ^ (32 - k)) = ((rotl d k : Nat) : Int) := (by exact HA.Wq.get : @HA.Wq (Builtin.bitOr (Builtin.bitAnd ((d : Int) * 2 ^ k) 4294967295) ((d : Int) / 2 ^ (32 - k)) = ((rotl d k : Nat) : Int)) (by
  have e : (2 : Nat) ^ 32 = 2 ^ (32 - k) * 2 ^ k := by rw [← Nat.pow_add]; congr 1; omega
  have h1 : d / 2 ^ (32 - k) < 2 ^ k := Nat.div_lt_of_lt_mul (by rw [← e]; exact h)
  have h2 : d * 2 ^ k % 2 ^ 32 = (d % 2 ^ (32 - k)) * 2 ^ k := by rw [e, Nat.mul_mod_mul_right]
  rw [bitAnd_m32]
  have e1 : (d : Int) * 2 ^ k % 4294967296 = ((d * 2 ^ k % 2 ^ 32 : Nat) : Int) := by
    have : ((2 ^ 32 : Nat) : Int) = 4294967296 := by decide
    rw [Int.natCast_emod, this, Int.natCast_mul, Int.natCast_pow]; rfl
  have e2 : (d : Int) / 2 ^ (32 - k) = ((d / 2 ^ (32 - k) : Nat) : Int) := by
    rw [Int.natCast_ediv, Int.natCast_pow]; rfl
  rw [e1, e2, h2, or_dis h1, ← h2]
  rfl))
theorem split32 {k : Nat} (hk : k ≤ 32) : (2 : Nat) ^ 32 = 2 ^ (32 - k) * 2 ^ k := by rw [← Nat.pow_add]; congr 1; omega
/-- turned, as high and low parts -/
theorem rotl_eq {d k : Nat} (hk : k ≤ 32) : rotl d k = d % 2 ^ (32 - k) * 2 ^ k + d / 2 ^ (32 - k) := by
  unfold rotl
  rw [split32 hk, Nat.mul_mod_mul_right]
/-- the law's way to turn -/
theorem rot_law {d k : Nat} (hk : k ≤ 32) : ((d : Int) * 2 ^ k) % 4294967296 + ((d : Int) * 2 ^ k) / 4294967296 = ((rotl d k : Nat) : Int) := (by exact HA.Wq.get : @HA.Wq (((d : Int) * 2 ^ k) % 4294967296 + ((d : Int) * 2 ^ k) / 4294967296 = ((rotl d k : Nat) : Int)) (by
  have e0 : ((2 ^ 32 : Nat) : Int) = 4294967296 := by decide
  have e1 : (d : Int) * 2 ^ k = ((d * 2 ^ k : Nat) : Int) := by rw [Int.natCast_mul, Int.natCast_pow]; rfl
  have e2 : d * 2 ^ k / 2 ^ 32 = d / 2 ^ (32 - k) := by rw [split32 hk, Nat.mul_div_mul_right _ _ (Nat.two_pow_pos k)]
  rw [e1, ← e0, ← Int.natCast_emod, ← Int.natCast_ediv, e2, ← Int.natCast_add]
  rfl))
/-- turned back -/
theorem rotl_back {d k : Nat} (h : d < 2 ^ 32) (hk : k ≤ 32) : rotl (rotl d k) (32 - k) = d := (by exact HA.Wq.get : @HA.Wq (rotl (rotl d k) (32 - k) = d) (by
  have hk2 : 32 - k ≤ 32 := by omega
  have hs : 32 - (32 - k) = k := by omega
  rw [rotl_eq hk2, hs, rotl_eq hk]
  have h1 : d / 2 ^ (32 - k) < 2 ^ k := Nat.div_lt_of_lt_mul (by rw [← split32 hk]; exact h)
  have p := Nat.two_pow_pos k
  rw [Nat.mul_comm (d % 2 ^ (32 - k)) (2 ^ k), Nat.mul_add_mod, Nat.mod_eq_of_lt h1, Nat.mul_add_div p, Nat.div_eq_of_lt h1, Nat.add_zero, Nat.mul_comm]
  exact Nat.div_add_mod d (2 ^ (32 - k))))
/-- the program's way back -/
theorem rot_back_prog {d k : Nat} (h : d < 2 ^ 32) (hk : k ≤ 32) : Builtin.bitOr ((d : Int) / 2 ^ k) (Builtin.bitAnd ((d : Int) * 2 ^ (32 - k)) 4294967295) = ((rotl d (32 - k) : Nat) : Int) := (by exact HA.Wq.get : @HA.Wq (Builtin.bitOr ((d : Int) / 2 ^ k) (Builtin.bitAnd ((d : Int) * 2 ^ (32 - k)) 4294967295) = ((rotl d (32 - k) : Nat) : Int)) (by
  have hs : 32 - (32 - k) = k := by omega
  have := rot_prog (d := d) (k := 32 - k) h (by omega)
  rw [hs] at this
  rw [bitOr_comm, this]))
/-- sums and differences of words -/
theorem add_word (a b : Nat) : Builtin.bitAnd ((a : Int) + b) 4294967295 = (((a + b) % 2 ^ 32 : Nat) : Int) := by
  have e0 : ((2 ^ 32 : Nat) : Int) = 4294967296 := by decide
  rw [bitAnd_m32, Int.natCast_emod, e0]; rfl
def sub32 (a b : Nat) : Nat := (a + (2 ^ 32 - b)) % 2 ^ 32
theorem sub_word {a b : Nat} (hb : b < 2 ^ 32) : Builtin.bitAnd ((a : Int) - b) 4294967295 = ((sub32 a b : Nat) : Int) := by
  rw [bitAnd_m32]
  unfold sub32
  omega
theorem sub_add {a b : Nat} (ha : a < 2 ^ 32) (hb : b < 2 ^ 32) : sub32 ((a + b) % 2 ^ 32) b = a := by unfold sub32; omega
theorem xor_lt {a b : Nat} (ha : a < 2 ^ 32) (hb : b < 2 ^ 32) : a ^^^ b < 2 ^ 32 := Nat.xor_lt_two_pow ha hb
theorem xor_xor (a b : Nat) : a ^^^ b ^^^ b = a := by rw [Nat.xor_assoc, Nat.xor_self, Nat.xor_zero]
/-- one half of a quarter -/
def half (k l : Nat) : Nat × Nat × Nat × Nat → Nat × Nat × Nat × Nat := fun (a, b, c, d) =>
  let a := (a + b) % 2 ^ 32
  let d := rotl (d ^^^ a) k
  let c := (c + d) % 2 ^ 32
  let b := rotl (b ^^^ c) l
  (a, b, c, d)
def unhalf (k l : Nat) : Nat × Nat × Nat × Nat → Nat × Nat × Nat × Nat := fun (a, b, c, d) =>
  let b := rotl b (32 - l) ^^^ c
  let c := sub32 c d
  let d := rotl d (32 - k) ^^^ a
  let a := sub32 a b
  (a, b, c, d)
def W4 (q : Nat × Nat × Nat × Nat) : Prop := q.1 < 2 ^ 32 ∧ q.2.1 < 2 ^ 32 ∧ q.2.2.1 < 2 ^ 32 ∧ q.2.2.2 < 2 ^ 32
theorem half_W {k l : Nat} (hk : k ≤ 32) (hl : l ≤ 32) : ∀ q, W4 q → W4 (half k l q) := fun (a, b, c, d) ⟨h1, h2, h3, h4⟩ => by
  have m : ∀ x, x % 2 ^ 32 < 2 ^ 32 := fun x => Nat.mod_lt _ (by decide)
  exact ⟨m _, rotl_lt (xor_lt h2 (m _)) hl, m _, rotl_lt (xor_lt h4 (m _)) hk⟩
theorem un_half {k l : Nat} (hk : k ≤ 32) (hl : l ≤ 32) : ∀ q, W4 q → unhalf k l (half k l q) = q := fun (a, b, c, d) ⟨h1, h2, h3, h4⟩ => by
  have m : ∀ x, x % 2 ^ 32 < 2 ^ 32 := fun x => Nat.mod_lt _ (by decide)
  have h1 : a < 2 ^ 32 := h1
  have h2 : b < 2 ^ 32 := h2
  have h3 : c < 2 ^ 32 := h3
  have h4 : d < 2 ^ 32 := h4
  simp only [half, unhalf]
  rw [rotl_back (xor_lt h2 (m _)) hl, xor_xor, rotl_back (xor_lt h4 (m _)) hk, xor_xor, sub_add h1 h2, sub_add h3 (rotl_lt (xor_lt h4 (m _)) hk)]
abbrev Wd4 : Type := Nat × Nat × Nat × Nat
/-- a quarter, and its way back -/
def qrt (q : Wd4) : Wd4 := half 8 7 (half 16 12 q)
def unq (q : Wd4) : Wd4 := unhalf 16 12 (unhalf 8 7 q)
theorem unq_qrt {q : Wd4} (h : W4 q) : unq (qrt q) = q := by
  unfold unq qrt
  rw [un_half (by decide) (by decide) _ (half_W (by decide) (by decide) _ h), un_half (by decide) (by decide) _ h]
theorem qrt_W {q : Wd4} (h : W4 q) : W4 (qrt q) := half_W (by decide) (by decide) _ (half_W (by decide) (by decide) _ h)
theorem sub_lt {a b : Nat} : sub32 a b < 2 ^ 32 := Nat.mod_lt _ (by decide)
theorem unhalf_W {k l : Nat} : ∀ q, W4 q → W4 (unhalf k l q) := fun (a, b, c, d) ⟨h1, h2, h3, h4⟩ => by
  exact ⟨sub_lt, xor_lt (rotl_lt h2 (by omega)) h3, sub_lt, xor_lt (rotl_lt h4 (by omega)) h1⟩
theorem unq_W {q : Wd4} (h : W4 q) : W4 (unq q) := unhalf_W _ (unhalf_W _ h)
/-! rows of words -/
def wI (ws : List Nat) : List Int := ws.map fun (n : Nat) => (n : Int)
abbrev tW (ws : List Nat) : D := tI (wI ws)
abbrev cW (ws : List Nat) : Cell := .lst ((wI ws).map D.int)
def WsOk (ws : List Nat) : Prop := ∀ w ∈ ws, w < 2 ^ 32
def St (ws : List Nat) : Prop := ws.length = 16 ∧ WsOk ws
theorem wI_len {ws : List Nat} : (wI ws).length = ws.length := by simp [wI]
theorem at_w {ws : List Nat} {i : Nat} (h : i < ws.length) : atI ((wI ws).map D.int) (i : Int) = some (.int ((ws.getD i 0 : Nat) : Int)) := by
  rw [atI_map, atI_nat (by rw [wI_len]; exact h)]
  simp [wI, List.getD_eq_getElem?_getD, List.getElem?_eq_getElem h]
theorem set_w {ws : List Nat} {i v : Nat} : ((wI ws).map D.int).set i (.int (v : Int)) = (wI (ws.set i v)).map D.int := by
  simp [wI, List.map_set]
theorem wI_small {ws : List Nat} (h : WsOk ws) : SmallI (wI ws) := fun n hn => by
  obtain ⟨w, hw, rfl⟩ := List.mem_map.mp hn
  exact sm64 (by have := h w hw; omega)
theorem getD_lt {ws : List Nat} (h : WsOk ws) (i : Nat) : ws.getD i 0 < 2 ^ 32 := (by exact HA.Wq.get : @HA.Wq (ws.getD i 0 < 2 ^ 32) (by
  rw [List.getD_eq_getElem?_getD]
  cases e : ws[i]? with
  | none => decide
  | some w => exact h w (List.mem_of_getElem? e)))
theorem WsOk.set {ws : List Nat} (h : WsOk ws) {i v : Nat} (hv : v < 2 ^ 32) : WsOk (ws.set i v) := fun w hw => by
  rcases List.mem_or_eq_of_mem_set hw with h1 | rfl
  · exact h w h1
  · exact hv
/-- the four words at four places -/
def at4 (ws : List Nat) (L : Wd4) : Wd4 := (ws.getD L.1 0, ws.getD L.2.1 0, ws.getD L.2.2.1 0, ws.getD L.2.2.2 0)
def put4 (ws : List Nat) (L q : Wd4) : List Nat := (((ws.set L.1 q.1).set L.2.1 q.2.1).set L.2.2.1 q.2.2.1).set L.2.2.2 q.2.2.2
def qat (ws : List Nat) (L : Wd4) : List Nat := put4 ws L (qrt (at4 ws L))
def uat (ws : List Nat) (L : Wd4) : List Nat := put4 ws L (unq (at4 ws L))
theorem at4_W {ws : List Nat} (h : WsOk ws) (L : Wd4) : W4 (at4 ws L) := ⟨getD_lt h _, getD_lt h _, getD_lt h _, getD_lt h _⟩
theorem put4_len {ws : List Nat} {L q : Wd4} : (put4 ws L q).length = ws.length := by simp [put4]
theorem put4_ok {ws : List Nat} {L q : Wd4} (h : WsOk ws) (hq : W4 q) : WsOk (put4 ws L q) := (((h.set hq.1).set hq.2.1).set hq.2.2.1).set hq.2.2.2
theorem qat_len {ws : List Nat} {L : Wd4} : (qat ws L).length = ws.length := put4_len
theorem uat_len {ws : List Nat} {L : Wd4} : (uat ws L).length = ws.length := put4_len
theorem qat_ok {ws : List Nat} {L : Wd4} (h : WsOk ws) : WsOk (qat ws L) := put4_ok h (qrt_W (at4_W h L))
theorem uat_ok {ws : List Nat} {L : Wd4} (h : WsOk ws) : WsOk (uat ws L) := put4_ok h (unq_W (at4_W h L))
def lineI (L : Wd4) : List Int := [(L.1 : Int), L.2.1, L.2.2.1, L.2.2.2]
def In (n : Nat) (L : Wd4) : Prop := L.1 < n ∧ L.2.1 < n ∧ L.2.2.1 < n ∧ L.2.2.2 < n
instance {n : Nat} {L : Wd4} : Decidable (In n L) := by unfold In; infer_instance
def COLS : List Wd4 := [(0, 4, 8, 12), (1, 5, 9, 13), (2, 6, 10, 14), (3, 7, 11, 15)]
def DIAS : List Wd4 := [(0, 5, 10, 15), (1, 6, 11, 12), (2, 7, 8, 13), (3, 4, 9, 14)]
abbrev tL (ls : List Wd4) : D := tT (ls.map lineI)
def trn (ls : List Wd4) (ws : List Nat) : List Nat := ls.foldl qat ws
def bck (ls : List Wd4) (ws : List Nat) : List Nat := ls.foldl uat ws
theorem trn_len {ls : List Wd4} : ∀ {ws : List Nat}, (trn ls ws).length = ws.length := by
  unfold trn
  induction ls with
  | nil => exact rfl
  | cons L r ih => intro ws; exact ih.trans qat_len
theorem trn_ok {ls : List Wd4} : ∀ {ws : List Nat}, WsOk ws → WsOk (trn ls ws) := by
  unfold trn
  induction ls with
  | nil => exact fun h => h
  | cons L r ih => exact fun h => ih (qat_ok h)
theorem bck_len {ls : List Wd4} : ∀ {ws : List Nat}, (bck ls ws).length = ws.length := by
  unfold bck
  induction ls with
  | nil => exact rfl
  | cons L r ih => intro ws; exact ih.trans uat_len
theorem bck_ok {ls : List Wd4} : ∀ {ws : List Nat}, WsOk ws → WsOk (bck ls ws) := by
  unfold bck
  induction ls with
  | nil => exact fun h => h
  | cons L r ih => exact fun h => ih (uat_ok h)
@[irreducible] def dr (ws : List Nat) : List Nat := trn DIAS (trn COLS ws)
@[irreducible] def bdr (ws : List Nat) : List Nat := bck COLS (bck DIAS ws)
def drsR : Nat → List Nat → List Nat
  | 0, ws => ws
  | n + 1, ws => dr (drsR n ws)
def bdrsR : Nat → List Nat → List Nat
  | 0, ws => ws
  | n + 1, ws => bdr (bdrsR n ws)
@[irreducible] def drs (n : Nat) (ws : List Nat) : List Nat := drsR n ws
@[irreducible] def bdrs (n : Nat) (ws : List Nat) : List Nat := bdrsR n ws
theorem drs0 {ws : List Nat} : drs 0 ws = ws := by unfold drs; rfl
theorem drsS {n : Nat} {ws : List Nat} : drs (n + 1) ws = dr (drs n ws) := by unfold drs; rfl
theorem bdrs0 {ws : List Nat} : bdrs 0 ws = ws := by unfold bdrs; rfl
theorem bdrsS {n : Nat} {ws : List Nat} : bdrs (n + 1) ws = bdr (bdrs n ws) := by unfold bdrs; rfl
theorem drs1 {ws : List Nat} : drs 1 ws = dr ws := by rw [drsS, drs0]
theorem bdrs1 {ws : List Nat} : bdrs 1 ws = bdr ws := by rw [bdrsS, bdrs0]
theorem dr_eq {ws : List Nat} : dr ws = trn DIAS (trn COLS ws) := by unfold dr; rfl
theorem bdr_eq {ws : List Nat} : bdr ws = bck COLS (bck DIAS ws) := by unfold bdr; rfl
theorem dr_st {ws : List Nat} (h : St ws) : St (dr ws) := by rw [dr_eq]; exact ⟨by rw [trn_len, trn_len, h.1], trn_ok (trn_ok h.2)⟩
theorem bdr_st {ws : List Nat} (h : St ws) : St (bdr ws) := by rw [bdr_eq]; exact ⟨by rw [bck_len, bck_len, h.1], bck_ok (bck_ok h.2)⟩
theorem drs_st {ws : List Nat} (h : St ws) : ∀ {n : Nat}, St (drs n ws)
  | 0 => by rw [drs0]; exact h
  | n + 1 => by rw [drsS]; exact dr_st (drs_st h)
theorem bdrs_st {ws : List Nat} (h : St ws) : ∀ {n : Nat}, St (bdrs n ws)
  | 0 => by rw [bdrs0]; exact h
  | n + 1 => by rw [bdrsS]; exact bdr_st (bdrs_st h)
def movd (by_ : Nat) (ws : List Nat) : List Nat := (List.range 16).map fun i => ws.getD (i - i % 4 + (i + by_) % 4) 0
theorem movd_st {ws : List Nat} (h : St ws) {b : Nat} : St (movd b ws) := ⟨by simp [movd], fun w hw => by
  obtain ⟨i, _, rfl⟩ := List.mem_map.mp hw
  exact getD_lt h.2 _⟩
/-! what each def promises -/
def q4 (q : Wd4) : D := .tup [.int q.1, .int q.2.1, .int q.2.2.1, .int q.2.2.2]
def l4 (q : Wd4) : List D := [.int q.1, .int q.2.1, .int q.2.2.1, .int q.2.2.2]
def sp_quarter (z : Wd) : ASp := fun ds M Q _ => ∃ q : Wd4, ds = l4 q ∧ W4 q ∧ Q (tI (lineI (qrt q))) M
def sp_unquarter (z : Wd) : ASp := fun ds M Q _ => ∃ q : Wd4, ds = l4 q ∧ W4 q ∧ Q (tI (lineI (unq q))) M
def sp_quarter_at (z : Wd) : ASp := fun ds M Q _ => ∃ (ws : List Nat) (L : Wd4), ds = [tW ws, tI (lineI L)] ∧ WsOk ws ∧ In ws.length L ∧ ws.length ≤ 100 ∧ Q (tW (qat ws L)) M
def sp_turn (z : Wd) : ASp := fun ds M Q _ => ∃ (p : Addr) (ws : List Nat) (ls : List Wd4), ds = [.ref p, tL ls] ∧ M p = some (cW ws) ∧ WsOk ws ∧ (∀ L ∈ ls, In ws.length L) ∧ Q .non (mset M p (cW (trn ls ws)))
def sp_turn_back (z : Wd) : ASp := fun ds M Q _ => ∃ (p : Addr) (ws : List Nat) (ls : List Wd4), ds = [.ref p, tL ls] ∧ M p = some (cW ws) ∧ WsOk ws ∧ (∀ L ∈ ls, In ws.length L) ∧ Q .non (mset M p (cW (bck ls ws)))
def sp_double_round (z : Wd) : ASp := fun ds M Q _ => ∃ (ws : List Nat), ds = [tW ws] ∧ St ws ∧ Q (tW (dr ws)) M
def sp_double_back (z : Wd) : ASp := fun ds M Q _ => ∃ (ws : List Nat), ds = [tW ws] ∧ St ws ∧ Q (tW (bdr ws)) M
def sp_double_rounds (z : Wd) : ASp := fun ds M Q _ => ∃ (ws : List Nat) (n : Nat), ds = [tW ws, .int n] ∧ St ws ∧ n ≤ 1000 ∧ Q (tW (drs n ws)) M
def sp_double_rounds_back (z : Wd) : ASp := fun ds M Q _ => ∃ (ws : List Nat) (n : Nat), ds = [tW ws, .int n] ∧ St ws ∧ n ≤ 1000 ∧ Q (tW (bdrs n ws)) M
def sp_rows_turned (z : Wd) : ASp := fun ds M Q _ => ∃ (ws : List Nat) (n : Nat), ds = [tW ws, .int n] ∧ St ws ∧ n ≤ 1000 ∧ Q (tW (movd n ws)) M
def sp_law_word (z : Wd) : ASp := fun ds M Q _ => ∃ (x : D), ds = [x] ∧ Deal M x ∧ ∀ w : Nat, w < 2 ^ 32 → Q (.int w) M
def Dis (L : Wd4) : Prop := L.1 ≠ L.2.1 ∧ L.1 ≠ L.2.2.1 ∧ L.1 ≠ L.2.2.2 ∧ L.2.1 ≠ L.2.2.1 ∧ L.2.1 ≠ L.2.2.2 ∧ L.2.2.1 ≠ L.2.2.2
instance {L : Wd4} : Decidable (Dis L) := by unfold Dis; infer_instance
def sp_law_quarter (z : Wd) : ASp := fun ds M Q _ => ∃ (p : Addr) (ws : List Nat) (L : Wd4), ds = [.ref p, .int L.1, .int L.2.1, .int L.2.2.1, .int L.2.2.2] ∧ M p = some (cW ws) ∧ WsOk ws ∧ In ws.length L ∧ Dis L ∧ Q .non (mset M p (cW (qat ws L)))
def sp_law_rounds (z : Wd) : ASp := fun ds M Q _ => ∃ (ws : List Nat) (n : Nat), (ds = [tW ws, .int n] ∨ ds = [lI (wI ws), .int n]) ∧ St ws ∧ n ≤ 1000 ∧ Q (lI (wI (drs n ws))) M
abbrev sp_law_any (z : Wd) : ASp := spAny
end Sh
/-! A35: steps over plain (natural) numbers: key "nw" -/
namespace HA
open PySem PySem.Spec L2
section
variable {M : Mem} {Q : DK} {a b k : Nat}
theorem n_addcc (h : Q (.int ((a + b : Nat) : Int)) M) : bAddF (.int (a : Int)) (.int (b : Int)) M Q := i_addI (by rw [← Int.natCast_add]; exact h)
theorem n_addcl (h : Q (.int ((a + OfNat.ofNat k : Nat) : Int)) M) : bAddF (.int (a : Int)) (.int (OfNat.ofNat k : Int)) M Q := n_addcc (b := OfNat.ofNat k) h
theorem n_addlc (h : Q (.int ((OfNat.ofNat k + b : Nat) : Int)) M) : bAddF (.int (OfNat.ofNat k : Int)) (.int (b : Int)) M Q := n_addcc (a := OfNat.ofNat k) h
theorem n_subcc (c : b ≤ a) (h : Q (.int ((a - b : Nat) : Int)) M) : oSub (.int (a : Int)) (.int (b : Int)) M Q := by
  show Q (.int ((a : Int) - b)) M
  rw [← Int.natCast_sub c]; exact h
theorem n_subcl (c : OfNat.ofNat k ≤ a) (h : Q (.int ((a - OfNat.ofNat k : Nat) : Int)) M) : oSub (.int (a : Int)) (.int (OfNat.ofNat k : Int)) M Q := n_subcc (b := OfNat.ofNat k) c h
theorem n_sublc (c : b ≤ OfNat.ofNat k) (h : Q (.int ((OfNat.ofNat k - b : Nat) : Int)) M) : oSub (.int (OfNat.ofNat k : Int)) (.int (b : Int)) M Q := n_subcc (a := OfNat.ofNat k) c h
theorem MulOk.nat {a b : Nat} (ha : a < 2 ^ 250) (hb : b < 2 ^ 250) : MulOk (a : Int) (b : Int) := MulOk.of (a := 250) (b := 250) (by simpa using ha) (by simpa using hb) (by decide)
theorem n_mulcc (c : MulOk (a : Int) (b : Int)) (h : Q (.int ((a * b : Nat) : Int)) M) : bMul (.int (a : Int)) (.int (b : Int)) M Q := i_mulO c (by rw [← Int.natCast_mul]; exact h)
theorem n_mulcl (c : MulOk (a : Int) (OfNat.ofNat k : Int)) (h : Q (.int ((a * OfNat.ofNat k : Nat) : Int)) M) : bMul (.int (a : Int)) (.int (OfNat.ofNat k : Int)) M Q := n_mulcc (b := OfNat.ofNat k) c h
theorem n_mullc (c : MulOk (OfNat.ofNat k : Int) (b : Int)) (h : Q (.int ((OfNat.ofNat k * b : Nat) : Int)) M) : bMul (.int (OfNat.ofNat k : Int)) (.int (b : Int)) M Q := n_mulcc (a := OfNat.ofNat k) c h
theorem n_divcc (c : 0 < b ∧ b < 2 ^ 250) (h : Q (.int ((a / b : Nat) : Int)) M) : oDiv (.int (a : Int)) (.int (b : Int)) M Q := i_bI (DivOk.of (b := 250) (by omega) (by simpa using c.2) (by decide) (by decide)) (by show Q (.int ((a : Int) / b)) M; rw [← Int.natCast_ediv]; exact h)
theorem n_divcl (c : 0 < OfNat.ofNat k ∧ OfNat.ofNat k < 2 ^ 250) (h : Q (.int ((a / OfNat.ofNat k : Nat) : Int)) M) : oDiv (.int (a : Int)) (.int (OfNat.ofNat k : Int)) M Q := n_divcc (b := OfNat.ofNat k) c h
theorem n_modcc (c : 0 < b) (h : Q (.int ((a % b : Nat) : Int)) M) : oMod (.int (a : Int)) (.int (b : Int)) M Q := i_bI (show (0 : Int) < (b : Int) by omega) (by show Q (.int ((a : Int) % b)) M; rw [← Int.natCast_emod]; exact h)
theorem n_modcl (c : 0 < OfNat.ofNat k) (h : Q (.int ((a % OfNat.ofNat k : Nat) : Int)) M) : oMod (.int (a : Int)) (.int (OfNat.ofNat k : Int)) M Q := n_modcc (b := OfNat.ofNat k) c h
theorem n_shrcc (h : Q (.int ((a >>> b : Nat) : Int)) M) : oShr (.int (a : Int)) (.int (b : Int)) M Q := i_bI (show (0 : Int) ≤ (b : Int) by omega) (by
  show Q (.int ((a : Int) / 2 ^ (b : Int).toNat)) M
  rw [Int.toNat_natCast]
  have e : (a : Int) / 2 ^ b = ((a >>> b : Nat) : Int) := by rw [Nat.shiftRight_eq_div_pow, Int.natCast_ediv, Int.natCast_pow]; rfl
  rw [e]; exact h)
theorem n_shrcl (h : Q (.int ((a >>> OfNat.ofNat k : Nat) : Int)) M) : oShr (.int (a : Int)) (.int (OfNat.ofNat k : Int)) M Q := n_shrcc (b := OfNat.ofNat k) h
theorem n_shlcc (c : a < 2 ^ 250 ∧ b ≤ 250) (h : Q (.int ((a <<< b : Nat) : Int)) M) : oShl (.int (a : Int)) (.int (b : Int)) M Q := i_bI (ShlOk.of (n := 250) (by omega) (by simpa using c.1) (by omega)) (by
  show Q (.int ((a : Int) * 2 ^ (b : Int).toNat)) M
  rw [Int.toNat_natCast]
  have e : (a : Int) * 2 ^ b = ((a <<< b : Nat) : Int) := by rw [Nat.shiftLeft_eq, Int.natCast_mul, Int.natCast_pow]; rfl
  rw [e]; exact h)
theorem n_shlcl (c : a < 2 ^ 250 ∧ OfNat.ofNat k ≤ 250) (h : Q (.int ((a <<< OfNat.ofNat k : Nat) : Int)) M) : oShl (.int (a : Int)) (.int (OfNat.ofNat k : Int)) M Q := n_shlcc (b := OfNat.ofNat k) c h
theorem n_andcc (h : Q (.int ((a &&& b : Nat) : Int)) M) : oAnd (.int (a : Int)) (.int (b : Int)) M Q := by
  show Q (.int (Builtin.bitAnd (a : Int) b)) M
  rw [PySem.W.os_band]; exact h
theorem n_m32 {x : Int} (h : Q (.int (x % 4294967296)) M) : oAnd (.int x) (.int 4294967295) M Q := by
  show Q (.int (Builtin.bitAnd x 4294967295)) M
  rw [PyProof.Rows.bitAnd_m32]; exact h
theorem n_m32n (h : Q (.int ((a % 4294967296 : Nat) : Int)) M) : oAnd (.int (a : Int)) (.int 4294967295) M Q := n_m32 (by rw [show (a : Int) % 4294967296 = ((a % 4294967296 : Nat) : Int) by omega]; exact h)
theorem n_andcl (h : Q (.int ((a &&& OfNat.ofNat k : Nat) : Int)) M) : oAnd (.int (a : Int)) (.int (OfNat.ofNat k : Int)) M Q := n_andcc (b := OfNat.ofNat k) h
theorem n_xorcc (h : Q (.int ((a ^^^ b : Nat) : Int)) M) : oXor (.int (a : Int)) (.int (b : Int)) M Q := by
  show Q (.int (Builtin.bitXor (a : Int) b)) M
  rw [Sh.xorN]; exact h
theorem n_xorcl (h : Q (.int ((a ^^^ OfNat.ofNat k : Nat) : Int)) M) : oXor (.int (a : Int)) (.int (OfNat.ofNat k : Int)) M Q := n_xorcc (b := OfNat.ofNat k) h
theorem and_or_sum : ∀ a b : Nat, (a ||| b) + (a &&& b) = a + b := (by exact HA.Wq.get : @HA.Wq (∀ a b : Nat, (a ||| b) + (a &&& b) = a + b) (by
  intro a
  induction a using Nat.strongRecOn with
  | _ a ih =>
    intro b
    by_cases h0 : a = 0
    · subst h0; simp
    · have i := ih (a / 2) (by omega) (b / 2)
      have x1 : (a ||| b) / 2 = a / 2 ||| b / 2 := Nat.or_div_two
      have x2 : (a &&& b) / 2 = a / 2 &&& b / 2 := Nat.and_div_two
      have m1 : (a ||| b) % 2 = (a.testBit 0 || b.testBit 0).toNat := by rw [Sh.bit2, Nat.testBit_or]
      have m2 : (a &&& b) % 2 = (a.testBit 0 && b.testBit 0).toNat := by rw [Sh.bit2, Nat.testBit_and]
      have ma := Sh.bit2 a
      have mb := Sh.bit2 b
      have bs : (a.testBit 0 || b.testBit 0).toNat + (a.testBit 0 && b.testBit 0).toNat = (a.testBit 0).toNat + (b.testBit 0).toNat := by cases a.testBit 0 <;> cases b.testBit 0 <;> rfl
      rw [← x1, ← x2] at i
      omega))
theorem n_orcc (h : Q (.int ((a ||| b : Nat) : Int)) M) : oOr (.int (a : Int)) (.int (b : Int)) M Q := (by exact HA.Wq.get : @HA.Wq (oOr (.int (a : Int)) (.int (b : Int)) M Q) (by
  show Q (.int (Builtin.bitOr (a : Int) b)) M
  rw [PyProof.Rows.bitOr_and, PySem.W.os_band]
  have := and_or_sum a b
  have e : (a : Int) + b - ((a &&& b : Nat) : Int) = ((a ||| b : Nat) : Int) := by omega
  rw [e]; exact h))
theorem n_orcl (h : Q (.int ((a ||| OfNat.ofNat k : Nat) : Int)) M) : oOr (.int (a : Int)) (.int (OfNat.ofNat k : Int)) M Q := n_orcc (b := OfNat.ofNat k) h
end
end HA
/-! PP: what any value is: what each def promises -/
namespace Sh
open PySem PySem.Spec L2 HA
/-- a value without things that may change -/
def Any1 : D → Prop | .frz _ => False | .ref _ => False | .ty _ => False | _ => True
def isIntQ : D → Bool | .int _ => true | _ => false
def numQ : D → Bool | .int i => decide (0 ≤ i) | _ => false
def belQ (x : D) (b : Int) : Bool := match x with | .int i => decide (0 ≤ i ∧ i < b) | _ => false
def sp_is_integer (z : Wd) : ASp := fun ds M Q _ => ∃ x : D, ds = [x] ∧ Any1 x ∧ Q (.bl (isIntQ x)) M
def sp_is_below (z : Wd) : ASp := fun ds M Q _ => ∃ (x : D) (b : Int), ds = [x, .int b] ∧ Any1 x ∧ Q (.bl (belQ x b)) M
end Sh
/-! readings of shared defs (printed by gen4.py) -/
namespace Sh
open PySem PySem.Spec L2 HA
/-! def is_integer -/
abbrev N_is_integer : List Str := ["value"]
abbrev ps_is_integer : List Str := ["value"]
abbrev t_is_integer_1 (z : Wd) : ASt := (aRet (aAndV (aCB cIsi (aCons (aVar 0) (aCons (aC (.ty "int")) aNil))) (aNotV (aCB cIsi (aCons (aVar 0) (aCons (aC (.ty "bool")) aNil))))))
abbrev t_is_integer (z : Wd) : ASt := (t_is_integer_1 z)
/-! def is_below -/
abbrev N_is_below : List Str := ["value", "bound"]
abbrev ps_is_below : List Str := ["value", "bound"]
abbrev t_is_below_1 (z : Wd) : ASt := (aRet (aAndV (aCall (sp_is_integer z) 1 0 [0] (aCons (aVar 0) aNil) aNil) (aChain oLe oLt (aC (.int 0)) (aVar 0) (aVar 1))))
abbrev t_is_below (z : Wd) : ASt := (t_is_below_1 z)
end Sh
set_option maxHeartbeats 1000000
local macro_rules | `(tactic| walk_at "put") => `(tactic| (simp (decide := true) only [HA.putD, ↓reduceIte]; exact rfl))
local macro_rules | `(tactic| walk_at "sz") => `(tactic| first | assumption | exact HA.sz_le (by first | decide | (simp only [List.length_append, List.length_map, List.length_take, List.length_drop, List.length_replicate, List.length_cons, List.length_nil, List.length_reverse, List.length_range, List.length_set]; omega) | omega))
local macro_rules | `(tactic| walk_at "sd") => `(tactic| first | assumption | exact trivial | omega | (simp only [List.length_append, List.length_map, List.length_take, List.length_drop, List.length_replicate, List.length_cons, List.length_nil, List.length_reverse, List.length_range, List.length_set]; omega) | exact HA.MulOk.left (by omega) (by omega) | exact HA.MulOk.right (by omega) (by omega) | exact HA.DivOk.small (by omega) (by omega) | (show (0 : Int) < _; omega) | (show (0 : Int) ≤ _; omega) | (unfold L2.CPow; decide) | exact HA.RngOk.mk (by omega) | exact HA.BigR.mk (by omega) (by omega) (by omega) (by omega) | exact ⟨HA.RngOk.mk (by omega), HA.RngOk.mk (by omega)⟩ | (walk_at "deal"; done) | (walk_at "mem"; done))
local macro_rules | `(tactic| walk_at "mle") => `(tactic| first | exact HA.MLe.refl _ | assumption | exact HA.MLe.new (by assumption) | (refine HA.MLe.new2 (by assumption) ?_; walk_at "mle") | (refine HA.MLe.newM (by assumption) ?_; walk_at "mle"))
local macro_rules | `(tactic| walk_at "mem") => `(tactic| first | assumption | exact HA.mset_same | (refine HA.mset_old (by assumption) ?_; walk_at "mem") | (rw [HA.mset_ne (by first | assumption | (apply Ne.symm; assumption) | solve_by_elim only [HA.ne_sn, Ne.symm, *])]; walk_at "mem"))
local macro_rules | `(tactic| walk_at "set") => `(tactic| (simp only [HA.wipeA, List.set_cons_zero, List.set_cons_succ]; exact rfl))
local macro_rules | `(tactic| walk_at "pk") => `(tactic| (simp only [HA.pick_cons, HA.pick_nil, List.cons_append, List.nil_append, List.append_nil, List.getElem?_cons_zero, List.getElem?_cons_succ, Option.toList]; exact rfl))
local macro_rules | `(tactic| walk_at "cut") => `(tactic| try simp (disch := omega) only [HA.cut_ij, HA.cut_i, HA.cut_j, HA.cut_ni, HA.cut_nj, HA.tn_ac, Int.toNat_natCast, Int.reduceToNat])
local macro_rules | `(tactic| walk_at "mm") => `(tactic| try rw [HA.mset_mset])
local macro_rules | `(tactic| walk_at "fold") => `(tactic| try simp only [HA.f0, HA.f1, HA.f2, HA.f3, HA.f4, HA.f5, HA.f6, HA.g6, HA.f7, HA.g7, HA.f8, HA.g8, HA.f9, HA.g9, HA.f10, HA.g10, HA.f11, HA.g11, HA.f12, HA.g12, HA.f13, HA.g13, HA.f14, HA.g14, HA.f15, HA.g15, HA.f16, HA.g16, HA.g0, HA.g1, HA.g2, HA.g3, HA.g4, HA.g5])
local macro_rules | `(tactic| walk_at "call") => `(tactic| fail)
local macro_rules | `(tactic| walk_at "pre") => `(tactic| fail)
local macro_rules | `(tactic| walk_at "s") => `(tactic| first
  | with_reducible refine HA.i_seq ?_ | walk_at "pre" | with_reducible refine HA.i_asg ?_ | ((fail_if_success (fail_if_success (with_reducible refine' HA.i_var ..))); (with_reducible apply HA.i_var); exact rfl) | with_reducible refine HA.i_c ?_ | with_reducible refine HA.i_op ?_
  | ((fail_if_success (fail_if_success (with_reducible refine' HA.i_name ..))); (with_reducible apply HA.i_name); walk_at "set") | with_reducible refine HA.i_nx ?_ | with_reducible refine HA.i_ret ?_ | with_reducible refine HA.i_if ?_ | with_reducible refine HA.i_test ?_ | with_reducible refine HA.i_onBl ?_
  | with_reducible refine HA.i_cons ?_ | with_reducible refine HA.i_nil ?_ | with_reducible refine HA.i_call ?_ | with_reducible refine HA.i_callD ?_ | ((fail_if_success (fail_if_success (with_reducible refine' HA.i_clD ..))); (with_reducible apply HA.i_clD); exact rfl; exact rfl; walk_at "pk") | ((fail_if_success (fail_if_success (with_reducible refine' HA.i_cl ..))); (with_reducible apply HA.i_cl); exact rfl; exact rfl; walk_at "pk") | walk_at "call"
  | with_reducible refine HA.i_tup ?_ | with_reducible refine HA.i_lstF ?_ | with_reducible refine HA.i_lst ?_ | ((((with_reducible refine HA.i_sz ?_ ?_); (focus (walk_at "sz"; done)))); walk_at "fold")
  | with_reducible refine HA.i_bI0 ?_ | ((with_reducible refine HA.i_bI ?_ ?_); (focus (walk_at "sd"; done))) | with_reducible refine HA.i_bC ?_ | ((with_reducible refine HA.i_mulO ?_ ?_); (focus (walk_at "sd"; done)))
  | ((with_reducible refine HA.i_mul2I ?_ ?_); (focus (walk_at "sd"; done))) | with_reducible refine HA.i_addI ?_ | ((with_reducible refine HA.i_addtI ?_ ?_); (focus (walk_at "sz"; done))) | ((with_reducible refine HA.i_addlI ?_ ?_); (focus (walk_at "sz"; done))) | ((with_reducible refine HA.i_addt ?_ ?_); (focus (walk_at "sz"; done))) | ((with_reducible refine HA.i_addl ?_ ?_); (focus (walk_at "sz"; done))) | ((with_reducible refine HA.i_baddl ?_ ?_); (focus (walk_at "sz"; done))) | ((fail_if_success (fail_if_success (with_reducible refine' HA.i_addrI ..))); (with_reducible apply HA.i_addrI); (focus (walk_at "mem"; done)); (focus (walk_at "sz"; done))) | ((fail_if_success (fail_if_success (with_reducible refine' HA.i_addr ..))); (with_reducible apply HA.i_addr); (focus (walk_at "mem"; done)); (focus (walk_at "sz"; done)))
  | with_reducible refine HA.i_cb ?_ | with_reducible refine HA.i_lentI ?_ | with_reducible refine HA.i_lenlI ?_ | with_reducible refine HA.i_lent ?_ | with_reducible refine HA.i_lenl ?_ | ((fail_if_success (fail_if_success (with_reducible refine' HA.i_lenr ..))); (with_reducible apply HA.i_lenr); (focus (walk_at "mem"; done))) | with_reducible refine HA.i_int ?_
  | with_reducible refine HA.i_tuplelI ?_ | with_reducible refine HA.i_tuplel ?_ | ((fail_if_success (fail_if_success (with_reducible refine' HA.i_tuplerI ..))); (with_reducible apply HA.i_tuplerI); (focus (walk_at "mem"; done))) | ((fail_if_success (fail_if_success (with_reducible refine' HA.i_tupler ..))); (with_reducible apply HA.i_tupler); (focus (walk_at "mem"; done))) | with_reducible refine HA.i_tupletI ?_ | with_reducible refine HA.i_tuplet ?_
  | with_reducible refine HA.i_lscI ?_ | with_reducible refine HA.i_lsclI ?_ | with_reducible refine HA.i_lsc ?_ | with_reducible refine HA.i_lscl ?_ | with_reducible refine HA.i_sortI ?_ | with_reducible refine HA.s_sumt ?_ | with_reducible refine HA.s_suml ?_ | with_reducible refine HA.s_summ ?_ | ((fail_if_success (fail_if_success (with_reducible refine' HA.s_sumr ..))); (with_reducible apply HA.s_sumr); (focus (walk_at "mem"; done))) | with_reducible refine HA.i_sumI ?_ | with_reducible refine HA.i_sortM ?_ | with_reducible refine HA.i_sumM ?_ | with_reducible refine HA.i_allB ?_ | with_reducible refine HA.i_listFI ?_ | with_reducible refine HA.i_listF ?_ | with_reducible refine HA.i_listFl ?_ | with_reducible refine HA.i_listFlI ?_ | with_reducible refine HA.i_c2I ?_ | with_reducible refine HA.i_c1I ?_
  | with_reducible refine HA.i_slF ?_ | with_reducible refine HA.i_noPart ?_ | with_reducible refine HA.i_part ?_ | with_reducible refine HA.i_ptI ?_ | ((with_reducible refine HA.i_sltI ?_); walk_at "cut") | ((with_reducible refine HA.i_sllI ?_); walk_at "cut") | ((with_reducible refine HA.i_slt ?_); walk_at "cut") | ((with_reducible refine HA.i_sll ?_); walk_at "cut") | ((fail_if_success (fail_if_success (with_reducible refine' HA.i_slrI ..))); (with_reducible apply HA.i_slrI); (focus (walk_at "mem"; done)); walk_at "cut") | ((fail_if_success (fail_if_success (with_reducible refine' HA.i_slr ..))); (with_reducible apply HA.i_slr); (focus (walk_at "mem"; done)); walk_at "cut") | ((with_reducible apply HA.i_lam); (focus (first | assumption | (exact HA.TabM.up (by assumption) (by walk_at "mle")))); (intro _ _)) | ((with_reducible apply HA.i_act); (focus (exact rfl)))
  | with_reducible refine HA.i_raise ?_ | with_reducible refine HA.i_tryAs ?_ | with_reducible refine HA.i_tryOnly ?_ | (((with_reducible refine HA.i_xT ?_ ?_); (focus (assumption; done))); (intro _ _); (try simp only [List.set_cons_zero, List.set_cons_succ])) | ((with_reducible refine HA.i_xF ?_ ?_); (focus (assumption; done))) | ((fail_if_success (fail_if_success (with_reducible refine' HA.i_exF ..))); (with_reducible apply HA.i_exF); (focus (assumption; done)); (focus (exact rfl))) | with_reducible refine HA.i_reflref ?_ | with_reducible refine HA.i_isE ?_ | ((fail_if_success (fail_if_success (with_reducible refine' HA.i_isEK ..))); (with_reducible apply HA.i_isEK); (focus (assumption; done)); (focus (assumption; done))) | ((with_reducible refine HA.i_fznx ?_ ?_); (focus (walk_at "mle"; done))) | with_reducible refine HA.i_drop ?_ | with_reducible refine HA.i_retN ?_ | with_reducible refine HA.i_brk ?_ | with_reducible refine HA.i_cont ?_ | with_reducible refine HA.i_forQ ?_ | with_reducible refine HA.i_lcQ ?_
  | with_reducible refine HA.i_inL ?_ | with_reducible refine HA.i_ninL ?_ | with_reducible refine HA.i_inT ?_ | with_reducible refine HA.i_ninT ?_ | ((fail_if_success (fail_if_success (with_reducible refine' HA.i_inR ..))); (with_reducible apply HA.i_inR); (focus (walk_at "mem"; done))) | ((fail_if_success (fail_if_success (with_reducible refine' HA.i_ninR ..))); (with_reducible apply HA.i_ninR); (focus (walk_at "mem"; done)))
  | ((with_reducible refine HA.i_rep1I ?_ ?_); (focus (constructor <;> omega))) | ((with_reducible refine HA.i_rep1 ?_ ?_); (focus (constructor <;> omega)))
  | with_reducible refine HA.i_lenSet ?_ | with_reducible refine HA.i_rngV ?_ | with_reducible refine HA.i_wkR ?_ | ((fail_if_success (fail_if_success (with_reducible refine' HA.i_wkRK ..))); (with_reducible apply HA.i_wkRK); (focus (walk_at "mem"; done)); (focus (walk_at "sd"; done))) | with_reducible refine HA.i_rg2B ?_ | ((with_reducible refine HA.i_rk2B ?_ ?_); (focus (walk_at "sd"; done)))
  | with_reducible refine HA.i_rg1 ?_ | with_reducible refine HA.i_rg2 ?_ | with_reducible refine HA.i_rg3 ?_ | ((with_reducible refine HA.i_rk1 ?_ ?_); (focus (walk_at "sd"; done))) | ((with_reducible refine HA.i_rk2 ?_ ?_); (focus (walk_at "sd"; done)))
  | with_reducible refine HA.i_walk ?_ | with_reducible refine HA.i_wktI ?_ | with_reducible refine HA.i_wklI ?_ | with_reducible refine HA.i_wkt ?_ | with_reducible refine HA.i_wkl ?_ | ((fail_if_success (fail_if_success (with_reducible refine' HA.i_wkr ..))); (with_reducible apply HA.i_wkr); (focus (walk_at "mem"; done)))
  | with_reducible refine HA.i_enumT ?_ | with_reducible refine HA.i_entI ?_ | with_reducible refine HA.i_ent ?_ | with_reducible refine HA.i_zip ?_ | with_reducible refine HA.i_zptI ?_ | with_reducible refine HA.i_zpt ?_
  | ((fail_if_success (fail_if_success (with_reducible refine' HA.i_extI ..))); (with_reducible apply HA.i_extI); (focus (walk_at "mem"; done)); (focus (walk_at "sz"; done)); walk_at "mm") | ((fail_if_success (fail_if_success (with_reducible refine' HA.i_exlI ..))); (with_reducible apply HA.i_exlI); (focus (walk_at "mem"; done)); (focus (walk_at "sz"; done)); walk_at "mm") | ((fail_if_success (fail_if_success (with_reducible refine' HA.i_ext ..))); (with_reducible apply HA.i_ext); (focus (walk_at "mem"; done)); (focus (walk_at "sz"; done)); walk_at "mm")
  | with_reducible refine HA.i_rev ?_ | with_reducible refine HA.i_rvtI ?_ | with_reducible refine HA.i_rvlI ?_ | with_reducible refine HA.i_rvt ?_ | with_reducible refine HA.i_rvl ?_
  | with_reducible refine HA.i_par ?_ | ((fail_if_success (fail_if_success (with_reducible refine' HA.i_parK ..))); (with_reducible apply HA.i_parK); walk_at "set") | with_reducible refine HA.i_par3 ?_ | ((fail_if_success (fail_if_success (with_reducible refine' HA.i_par3K ..))); (with_reducible apply HA.i_par3K); walk_at "set") | ((fail_if_success (fail_if_success (with_reducible refine' HA.i_aug ..))); (with_reducible apply HA.i_aug); exact rfl) | with_reducible refine HA.i_IaddI ?_ | ((with_reducible refine HA.i_iaddt ?_ ?_); (focus (walk_at "sz"; done)))
  | with_reducible refine HA.i_gtup rfl ?_ | with_reducible refine HA.i_gtupI rfl ?_ | with_reducible refine HA.i_gtupL rfl ?_ | with_reducible refine HA.i_gcons ?_ | with_reducible refine HA.i_gnil ?_ | with_reducible refine HA.i_gcI ?_ | with_reducible refine HA.i_gnI ?_ | with_reducible refine HA.i_gsub ?_
  | ((fail_if_success (fail_if_success (with_reducible refine' HA.i_ixtI ..))); (with_reducible apply HA.i_ixtI); exact rfl) | ((fail_if_success (fail_if_success (with_reducible refine' HA.i_ixt ..))); (with_reducible apply HA.i_ixt); exact rfl) | ((fail_if_success (fail_if_success (with_reducible refine' HA.i_ixlI ..))); (with_reducible apply HA.i_ixlI); exact rfl) | ((fail_if_success (fail_if_success (with_reducible refine' HA.i_ixl ..))); (with_reducible apply HA.i_ixl); exact rfl) | ((fail_if_success (fail_if_success (with_reducible refine' HA.i_ixr ..))); (with_reducible apply HA.i_ixr); (focus (walk_at "mem"; done)); (focus (exact rfl)))
  | with_reducible refine HA.e_S0 ?_ | with_reducible refine HA.e_S1 ?_ | with_reducible refine HA.e_I0 ?_ | with_reducible refine HA.e_I1 ?_ | with_reducible refine HA.e_t0 ?_ | with_reducible refine HA.e_t1 ?_ | with_reducible refine HA.e_l0 ?_ | with_reducible refine HA.e_l1 ?_
  | with_reducible refine HA.i_ltA ?_ | with_reducible refine HA.i_eqI ?_ | with_reducible refine HA.i_eqtI ?_ | with_reducible refine HA.i_eqlI ?_ | with_reducible refine HA.i_eqS ?_ | with_reducible refine HA.i_eqB ?_ | ((fail_if_success (fail_if_success (with_reducible refine' HA.i_isiT ..))); (with_reducible apply HA.i_isiT); (focus (exact rfl)); (focus (decide; done)); (focus (decide; done))) | ((fail_if_success (fail_if_success (with_reducible refine' HA.i_isiF ..))); (with_reducible apply HA.i_isiF); (focus (exact rfl)); (focus (decide; done)); (focus (decide; done))) | ((fail_if_success (fail_if_success (with_reducible refine' HA.i_popat ..))); (with_reducible apply HA.i_popat); (focus (walk_at "mem"; done)); (focus (walk_at "sd"; done)); (focus (walk_at "sd"; done)); (focus (walk_at "sd"; done)); walk_at "mm") | ((fail_if_success (fail_if_success (with_reducible show HA.cRepr _ _ _))); (with_reducible apply HA.i_repr); (focus (walk_at "pw"; done)); (focus (walk_at "pn"; done)); (focus (walk_at "pn"; done))) | ((fail_if_success (fail_if_success (with_reducible show HA.bEq _ _ _ _ _))); (with_reducible apply HA.e_T0); (focus (walk_at "pw"; done)); (focus (walk_at "pn"; done))) | ((fail_if_success (fail_if_success (with_reducible show HA.bEq _ _ _ _ _))); (with_reducible apply HA.e_T1); (focus (walk_at "pw"; done)); (focus (walk_at "pn"; done))) | ((fail_if_success (fail_if_success (with_reducible show HA.bEq _ _ _ _ _))); (with_reducible apply HA.e_L0); (focus (walk_at "pw"; done)); (focus (walk_at "pn"; done))) | ((fail_if_success (fail_if_success (with_reducible show HA.bEq _ _ _ _ _))); (with_reducible apply HA.e_L1); (focus (walk_at "pw"; done)); (focus (walk_at "pn"; done))) | ((fail_if_success (fail_if_success (with_reducible show HA.bEq _ _ _ _ _))); (with_reducible apply HA.i_eqPt); (focus (walk_at "pw"; done)); (focus (walk_at "pw"; done)); (focus (walk_at "pn"; done)); (focus (walk_at "pn"; done))) | ((fail_if_success (fail_if_success (with_reducible show HA.bEq _ _ _ _ _))); (with_reducible apply HA.i_eqPl); (focus (walk_at "pw"; done)); (focus (walk_at "pw"; done)); (focus (walk_at "pn"; done)); (focus (walk_at "pn"; done))) | ((fail_if_success (fail_if_success (with_reducible show HA.bEq _ _ _ _ _))); (with_reducible apply HA.i_eqPr); (focus (walk_at "pw"; done)); (focus (walk_at "pw"; done)); (focus (walk_at "pn"; done)); (focus (walk_at "pn"; done))) | with_reducible refine HA.br_tt ?_ | with_reducible refine HA.br_tf ?_ | with_reducible refine HA.br_nt ?_ | with_reducible refine HA.br_nf ?_ | with_reducible refine HA.br_fT ?_ | with_reducible refine HA.br_tT ?_ | with_reducible refine HA.br_FT ?_ | with_reducible refine HA.br_TF ?_ | with_reducible refine HA.br_x0 ?_ | with_reducible refine HA.br_x1 ?_ | with_reducible refine HA.br_x2 ?_ | with_reducible refine HA.br_x3 ?_ | with_reducible refine HA.br_x4 ?_ | with_reducible refine HA.br_x5 ?_ | with_reducible refine HA.i_eqN ?_ | with_reducible refine HA.i_isBt ?_ | with_reducible refine HA.i_isBf ?_ | with_reducible refine HA.i_isNn ?_ | ((with_reducible refine HA.i_isNx ?_ ?_); (focus (exact rfl))) | with_reducible refine HA.i_isN ?_
  | with_reducible refine HA.br_ne ?_ | with_reducible refine HA.br_eq ?_ | with_reducible refine HA.br_true ?_ | with_reducible refine HA.br_false ?_
  | ((refine HA.brT ?_ ?_); (focus (walk_at "dec"; done))) | ((refine HA.brF ?_ ?_); (focus (walk_at "dec"; done)))
  | with_reducible refine HA.i_truth ?_ | with_reducible refine HA.i_tru_bl ?_ | with_reducible refine HA.i_tru_int ?_ | with_reducible refine HA.i_tru_tI ?_ | with_reducible refine HA.i_tru_tup ?_ | with_reducible refine HA.i_tru_lst ?_ | with_reducible refine HA.i_tru_non ?_
  | with_reducible refine HA.i_notT ?_ | with_reducible refine HA.i_andT ?_ | with_reducible refine HA.i_orT ?_ | with_reducible refine HA.i_yes ?_ | with_reducible refine HA.i_andV ?_ | with_reducible refine HA.i_orV ?_ | with_reducible refine HA.i_notV ?_ | with_reducible refine HA.i_ifE ?_ | with_reducible refine HA.i_neg ?_ | with_reducible refine HA.i_ngI ?_ | with_reducible refine HA.i_chain ?_
  | with_reducible refine HA.i_mt0 ?_ | with_reducible refine HA.i_mt ?_ | ((fail_if_success (fail_if_success (with_reducible refine' HA.i_isl ..))); (with_reducible apply HA.i_isl); (focus (walk_at "mem"; done))) | ((fail_if_success (fail_if_success (with_reducible refine' HA.i_append ..))); (with_reducible apply HA.i_append); (focus (walk_at "mem"; done)); (focus (walk_at "sz"; done)); walk_at "mm")
  | ((fail_if_success (fail_if_success (with_reducible refine' HA.i_fget ..))); (with_reducible apply HA.i_fget); (focus (walk_at "mem"; done)); (focus (first | assumption | exact (HA.ClsOk.cls (by assumption)))); (focus (first | assumption | exact (HA.ClsOk.na (by assumption) _ (by simp)))); (focus (exact rfl)))
  | ((fail_if_success (fail_if_success (with_reducible refine' HA.i_fset ..))); (with_reducible apply HA.i_fset); (focus (walk_at "mem"; done)); (focus (first | assumption | exact (HA.ClsOk.cls (by assumption)))); (focus (first | assumption | exact (HA.ClsOk.na (by assumption) _ (by simp)))); (focus (first | decide | (simp; done))); (focus (walk_at "put"; done)); walk_at "mm")
  | with_reducible refine HA.i_make ?_ | (((with_reducible refine HA.i_mk ?_ ?_ ?_); (focus (exact rfl)); (focus (exact rfl))); (intro _ _); ((fail_if_success (fail_if_success (with_reducible refine' HA.i_pk ..))); (with_reducible apply HA.i_pk); (focus (walk_at "pk")))) | with_reducible refine HA.i_non ?_ | with_reducible refine HA.i_tt ?_ | with_reducible refine HA.i_meth ?_ | with_reducible refine HA.i_methK ?_ | ((fail_if_success (fail_if_success (with_reducible refine' HA.i_mtK ..))); (with_reducible apply HA.i_mtK); (focus (walk_at "mem"; done)); (focus (exact rfl))) | ((fail_if_success (fail_if_success (with_reducible refine' HA.i_mtKK ..))); (with_reducible apply HA.i_mtKK); (focus (walk_at "mem"; done)); (focus (exact rfl)))
  | ((fail_if_success (fail_if_success (with_reducible refine' HA.i_ml ..))); (with_reducible apply HA.i_ml); (focus (exact rfl)); (focus (walk_at "pk"))) | ((fail_if_success (fail_if_success (with_reducible refine' HA.i_mlK ..))); (with_reducible apply HA.i_mlK); (focus (exact rfl)); (focus (walk_at "pk")))
  | with_reducible refine HA.i_fldAug ?_ | ((fail_if_success (fail_if_success (with_reducible refine' HA.i_augK ..))); (with_reducible apply HA.i_augK); (focus (walk_at "mem"; done)); (focus (first | assumption | exact (HA.ClsOk.cls (by assumption)))); (focus (first | assumption | exact (HA.ClsOk.na (by assumption) _ (by simp)))); (focus (exact rfl)))
  | ((fail_if_success (fail_if_success (with_reducible refine' HA.i_augE ..))); (with_reducible apply HA.i_augE); (focus (walk_at "mem"; done)); (focus (first | decide | (simp; done))); (focus (walk_at "put"; done)); walk_at "mm")
  | with_reducible refine HA.i_fld ?_ | with_reducible refine HA.i_fldS ?_ | with_reducible refine HA.i_agf ?_
  | ((with_reducible refine HA.i_fzI ?_ ?_); (focus (walk_at "mle"; done))) | ((with_reducible refine HA.i_fzB ?_ ?_); (focus (walk_at "mle"; done))) | ((with_reducible refine HA.i_fzS ?_ ?_); (focus (walk_at "mle"; done))) | ((with_reducible refine HA.i_fzN ?_ ?_); (focus (walk_at "mle"; done))) | ((with_reducible refine HA.i_fztI ?_ ?_); (focus (walk_at "mle"; done))) | ((with_reducible refine HA.i_fzlI ?_ ?_); (focus (walk_at "mle"; done))) | ((with_reducible refine HA.i_fzt ?_ ?_); (focus (walk_at "mle"; done))) | ((with_reducible refine HA.i_fzl ?_ ?_); (focus (walk_at "mle"; done)))
  | ((fail_if_success (fail_if_success (with_reducible refine' HA.i_fzr ..))); (with_reducible apply HA.i_fzr); (focus (walk_at "mle"; done)); (focus (assumption; done)); (focus (walk_at "mem"; done)))
  | ((with_reducible refine HA.c_any ?_ ?_ ?_); (focus (walk_at "deal"; done)); (focus (walk_at "dr"; done))) | ((with_reducible refine HA.c_oflI ?_ ?_ ?_ ?_); (focus (walk_at "deal"; done)); (focus (simp; done)); (focus (simp; done))) | ((with_reducible refine HA.c_oftI ?_ ?_ ?_ ?_); (focus (walk_at "deal"; done)); (focus (simp; done)); (focus (simp; done))) | ((with_reducible refine HA.c_ofl ?_ ?_ ?_ ?_); (focus (walk_at "deal"; done)); (focus (simp; done)); (focus (simp; done))) | ((with_reducible refine HA.c_oft ?_ ?_ ?_ ?_); (focus (walk_at "deal"; done)); (focus (simp; done)); (focus (simp; done))))
local macro_rules | `(tactic| walk_at "oct") => `(tactic| first | with_reducible assumption | ((with_reducible apply HA.Oct.app) <;> walk_at "oct") | ((with_reducible apply HA.Oct.take); walk_at "oct") | ((with_reducible apply HA.Oct.drop); walk_at "oct"))
local macro_rules | `(tactic| walk_at "small") => `(tactic| first | with_reducible assumption | (apply HA.Oct.small; walk_at "oct") | (apply HA.Oct.small; unfold HA.Oct; decide))
local macro_rules | `(tactic| walk_at "sm") => `(tactic| first | with_reducible assumption | exact HA.sm64 (by omega) | exact HA.sm64 (by simp only [List.length_append, List.length_map, List.length_take, List.length_drop, List.length_replicate, List.length_cons, List.length_nil, List.length_reverse, List.length_range, List.length_set]; omega) | exact HA.smN 256 (by omega) (by decide))
local macro_rules | `(tactic| walk_at "lay") => `(tactic| first | assumption | decide | decide +kernel)
local macro_rules | `(tactic| walk_at "pw") => `(tactic| first | with_reducible assumption | ((with_reducible apply HA.pw_tI); focus (walk_at "small"; done)) | ((with_reducible apply HA.pw_lI); focus (walk_at "small"; done)) | ((with_reducible apply HA.pw_int); focus (walk_at "sm"; done)) | with_reducible exact HA.pw_bl | with_reducible exact HA.pw_non | ((with_reducible apply HA.pw_str); (focus (walk_at "lay"; done)); (focus (walk_at "lay"; done))) | ((with_reducible apply HA.pw_tup); (focus (walk_at "pwl"; done))) | ((with_reducible apply HA.pw_lst); (focus (walk_at "pwl"; done))) | ((with_reducible apply HA.pw_ref); (focus (walk_at "mem"; done)); (focus (walk_at "pwl"; done))))
local macro_rules | `(tactic| walk_at "pwl") => `(tactic| first | with_reducible assumption | with_reducible exact HA.pwl_nil | ((with_reducible apply HA.pwl_cons); (focus (walk_at "pw"; done)); (focus (walk_at "pwl"; done))))
local macro_rules | `(tactic| walk_at "pn") => `(tactic| first | decide | (simp only [List.length_append, List.length_map, List.length_take, List.length_drop, List.length_replicate, List.length_cons, List.length_nil, List.length_reverse, List.length_range, List.length_set]; omega) | omega)
local macro_rules | `(tactic| walk_at "dec") => `(tactic| first | assumption | omega)
local macro_rules | `(tactic| walk_at "deal") => `(tactic| first | assumption | (exact HA.Deal.up (by assumption) (by assumption)) | (refine HA.Deal.new ?_ (by assumption); walk_at "deal") | (refine HA.Deal.ins ?_ (by focus (walk_at "mem"; done)); walk_at "deal") | (refine HA.Deal.lst ?_ (by focus (walk_at "mem"; done)); walk_at "deal"))
local macro_rules | `(tactic| walk_at "dr") => `(tactic| first | exact HA.dr_ok (by omega) (by omega) | (simp only [List.length_append, List.length_map, List.length_take, List.length_drop, List.length_replicate, List.length_cons, List.length_nil, List.length_reverse, List.length_range, List.length_set]; exact HA.dr_ok (by omega) (by omega)))
local macro_rules | `(tactic| walk_at "r") => `(tactic| (repeat walk_at "s"))
local macro_rules | `(tactic| walk_at "start") => `(tactic| (simp only [HA.startA, List.map_cons, List.map_nil, List.length_cons, List.length_nil, Nat.reduceAdd, Nat.reduceSub, List.reduceReplicate, List.cons_append, List.nil_append, List.append_nil, HA.pureE, HA.anyE]))
local macro_rules | `(tactic| walk_at "nsd") => `(tactic| first | with_reducible assumption | omega | exact ⟨by omega, by omega⟩ | decide | exact HA.MulOk.left (by omega) (by omega) | exact HA.MulOk.right (by omega) (by omega) | exact HA.MulOk.nat (by omega) (by omega))
local macro_rules | `(tactic| walk_at "nw") => `(tactic| first
  | with_reducible refine HA.n_addcc ?_ | with_reducible refine HA.n_addcl ?_ | with_reducible refine HA.n_addlc ?_
  | with_reducible refine HA.n_shrcl ?_ | with_reducible refine HA.n_shrcc ?_ | ((with_reducible refine HA.n_shlcl ?_ ?_); (focus (walk_at "nsd"; done))) | ((with_reducible refine HA.n_shlcc ?_ ?_); (focus (walk_at "nsd"; done)))
  | with_reducible refine HA.n_m32n ?_ | with_reducible refine HA.n_m32 ?_ | with_reducible refine HA.n_andcc ?_ | with_reducible refine HA.n_andcl ?_ | with_reducible refine HA.n_orcc ?_ | with_reducible refine HA.n_orcl ?_ | with_reducible refine HA.n_xorcc ?_ | with_reducible refine HA.n_xorcl ?_
  | ((with_reducible refine HA.n_mulcc ?_ ?_); (focus (walk_at "nsd"; done))) | ((with_reducible refine HA.n_mulcl ?_ ?_); (focus (walk_at "nsd"; done))) | ((with_reducible refine HA.n_mullc ?_ ?_); (focus (walk_at "nsd"; done)))
  | ((with_reducible refine HA.n_modcl ?_ ?_); (focus (walk_at "nsd"; done))) | ((with_reducible refine HA.n_modcc ?_ ?_); (focus (walk_at "nsd"; done))) | ((with_reducible refine HA.n_divcl ?_ ?_); (focus (walk_at "nsd"; done))) | ((with_reducible refine HA.n_divcc ?_ ?_); (focus (walk_at "nsd"; done)))
  | ((with_reducible refine HA.n_subcl ?_ ?_); (focus (walk_at "nsd"; done))) | ((with_reducible refine HA.n_subcc ?_ ?_); (focus (walk_at "nsd"; done))) | ((with_reducible refine HA.n_sublc ?_ ?_); (focus (walk_at "nsd"; done))))
namespace Sh
open PySem PySem.Spec L2 HA
theorem len_is_integer (z : Wd) : ∀ ds M Q E, sp_is_integer z ds M Q E → ds.length = ps_is_integer.length := by
  intro ds M Q E h; repeat (first | (obtain ⟨rfl, _⟩ := h; rfl) | (obtain ⟨_, h⟩ := h))
theorem v_is_integer (z : Wd) : ∀ ds M Q E, sp_is_integer z ds M Q E → t_is_integer z (pureE M Q E) (startA N_is_integer ds) M := (by exact HA.Wq.get : @HA.Wq (∀ ds M Q E, sp_is_integer z ds M Q E → t_is_integer z (pureE M Q E) (startA N_is_integer ds) M) (by
  intro ds M Q E ⟨x, h, hx, q⟩
  subst h
  cases x with
  | frz _ => exact hx.elim
  | ref _ => exact hx.elim
  | ty _ => exact hx.elim
  | lst l =>
    walk_at "start"; walk_at "r"
    refine i_isiF (S := "list") ⟨rfl, _, rfl⟩ (by decide) (by decide) ?_
    walk_at "r"; exact q
  | _ => walk_at "start"; walk_at "r"; exact q))
theorem c_is_integer (z : Wd) {x : D} {M : Mem} {Q : DK} {E : AX} (hx : Any1 x) (h : Q (.bl (isIntQ x)) M) : sp_is_integer z [x] M Q E := ⟨x, rfl, hx, h⟩
theorem len_is_below (z : Wd) : ∀ ds M Q E, sp_is_below z ds M Q E → ds.length = ps_is_below.length := by
  intro ds M Q E h; repeat (first | (obtain ⟨rfl, _⟩ := h; rfl) | (obtain ⟨_, h⟩ := h))
theorem v_is_below (z : Wd) : ∀ ds M Q E, sp_is_below z ds M Q E → t_is_below z (pureE M Q E) (startA N_is_below ds) M := (by exact HA.Wq.get : @HA.Wq (∀ ds M Q E, sp_is_below z ds M Q E → t_is_below z (pureE M Q E) (startA N_is_below ds) M) (by
  intro ds M Q E ⟨x, b, h, hx, q⟩
  subst h
  walk_at "start"
  walk_at "r"
  refine c_is_integer z hx ?_
  cases x with
  | frz _ => exact hx.elim
  | ref _ => exact hx.elim
  | ty _ => exact hx.elim
  | int i =>
    unfold isIntQ
    walk_at "r"
    unfold belQ at q
    dsimp only at q
    refine ⟨fun h => ?_, fun h => ?_⟩
    · have h := of_decide_eq_true h
      walk_at "r"
      rw [show decide (i < b) = decide (0 ≤ i ∧ i < b) from decide_eq_decide.mpr ⟨fun x => ⟨h, x⟩, fun x => x.2⟩]
      exact q
    · have h := of_decide_eq_false h
      rw [decide_eq_false (fun x => h x.1)] at q
      walk_at "r"
      exact q
  | _ => unfold isIntQ; walk_at "r"; exact q))
theorem c_is_below (z : Wd) {x : D} {b : Int} {M : Mem} {Q : DK} {E : AX} (hx : Any1 x) (h : Q (.bl (belQ x b)) M) : sp_is_below z [x, .int b] M Q E := ⟨x, b, rfl, hx, h⟩
end Sh
/-! PV: any values as octets: what each def promises -/
namespace Sh
open PySem PySem.Spec L2 HA
/-- a value whose things, if it is a tuple, do not change -/
def AnyT (x : D) : Prop := Any1 x ∧ ∀ xs, x = .tup xs → xs.length ≤ 100000 ∧ ∀ d ∈ xs, Any1 d
def wrongAt (s : Option Int) : Nat → List D → Option Int
  | _, [] => none
  | i, x :: r => if belQ x 256 = false ∨ s = some (i : Int) then some (i : Int) else wrongAt s (i + 1) r
/-- the first wrong place of things as octets -/
def wpl (s : Option Int) (xs : List D) : Option Int := match wrongAt s 0 xs with
  | some a => some a
  | none => match s with
    | some n => if (xs.length : Int) < n then some (xs.length : Int) else none
    | none => none
def opI : Option Int → D | none => .non | some i => .int i
/-- why any value is no octets -/
def ndO (s : Option Int) (x : D) : Option Int := match x with | .tup xs => wpl s xs | _ => some (-1)
def sp_wrong_place (z : Wd) : ASp := fun ds M Q _ => ∃ (xs : List D) (s : Option Int), ds = [.tup xs, opI s] ∧ xs.length ≤ 100000 ∧ (∀ d ∈ xs, Any1 d) ∧ Q (opI (wpl s xs)) M
def sp_is_octets (z : Wd) : ASp := fun ds M Q _ => ∃ x : D, ds = [x] ∧ AnyT x ∧ Q (.bl (ndO none x).isNone) M
def sp_need_octets (z : Wd) : ASp := fun ds M Q E => ∃ (x : D) (s : Option Int), ds = [x, opI s] ∧ AnyT x ∧ (ndO s x = none → Q .non M) ∧ (∀ a, ndO s x = some a → E (z.C 1) [("at", .int a)] M)
end Sh
/-! PWM: windows of counters, plainly -/
namespace Sh
/-- the greatest of counters, -1 of none -/
def top (ks : List Int) : Int := ks.foldl max (-1)
theorem foldl_max_ge (ks : List Int) : ∀ a : Int, a ≤ ks.foldl max a ∧ ∀ k ∈ ks, k ≤ ks.foldl max a := (by exact HA.Wq.get : @HA.Wq (∀ a : Int, a ≤ ks.foldl max a ∧ ∀ k ∈ ks, k ≤ ks.foldl max a) (by
  induction ks with
  | nil => exact fun a => ⟨Int.le_refl _, fun _ h => nomatch h⟩
  | cons x r ih =>
    intro a
    obtain ⟨h1, h2⟩ := ih (max a x)
    refine ⟨?_, fun k hk => ?_⟩
    · show a ≤ r.foldl max (max a x); omega
    · show k ≤ r.foldl max (max a x)
      rcases List.mem_cons.mp hk with rfl | hk
      · omega
      · exact h2 k hk))
theorem foldl_max_mem (ks : List Int) : ∀ a : Int, ks.foldl max a = a ∨ ks.foldl max a ∈ ks := (by exact HA.Wq.get : @HA.Wq (∀ a : Int, ks.foldl max a = a ∨ ks.foldl max a ∈ ks) (by
  induction ks with
  | nil => exact fun a => .inl rfl
  | cons x r ih =>
    intro a
    show r.foldl max (max a x) = a ∨ r.foldl max (max a x) ∈ x :: r
    rcases ih (max a x) with h | h
    · rw [h]
      rcases Int.le_total a x with h2 | h2
      · rw [Int.max_eq_right h2]; exact .inr (.head _)
      · rw [Int.max_eq_left h2]; exact .inl rfl
    · exact .inr (.tail _ h)))
theorem top_nil : top [] = -1 := rfl
theorem top_app {ks : List Int} {c : Int} : top (ks ++ [c]) = max (top ks) c := by unfold top; rw [List.foldl_append]; rfl
theorem top_ge {ks : List Int} : -1 ≤ top ks := (foldl_max_ge ks (-1)).1
theorem le_top {ks : List Int} {k : Int} (h : k ∈ ks) : k ≤ top ks := (foldl_max_ge ks (-1)).2 k h
/-- counters -/
def Cnt (ks : List Int) : Prop := ∀ k ∈ ks, 0 ≤ k ∧ k < 9223372036854775808
theorem Cnt.nil : Cnt [] := fun _ h => nomatch h
theorem Cnt.app {ks : List Int} {c : Int} (h : Cnt ks) (hc : 0 ≤ c ∧ c < 9223372036854775808) : Cnt (ks ++ [c]) := fun k hk => by
  rcases List.mem_append.mp hk with hk | hk
  · exact h k hk
  · rw [List.mem_singleton.mp hk]; exact hc
theorem Cnt.top_mem {ks : List Int} (h : Cnt ks) (h0 : ks ≠ []) : top ks ∈ ks := (by exact HA.Wq.get : @HA.Wq (top ks ∈ ks) (by
  rcases foldl_max_mem ks (-1) with e | e
  · obtain ⟨x, r, rfl⟩ : ∃ x r, ks = x :: r := by cases ks with | nil => exact absurd rfl h0 | cons x r => exact ⟨x, r, rfl⟩
    have := (foldl_max_ge (x :: r) (-1)).2 x (.head _)
    have h2 := (h x (.head _)).1
    omega
  · exact e))
theorem Cnt.top0 {ks : List Int} (h : Cnt ks) (h0 : ks ≠ []) : 0 ≤ top ks ∧ top ks < 9223372036854775808 := h _ (h.top_mem h0)
theorem Cnt.topb {ks : List Int} (h : Cnt ks) : -1 ≤ top ks ∧ top ks < 9223372036854775808 := by
  by_cases h0 : ks = []
  · subst h0; rw [top_nil]; omega
  · have := h.top0 h0; omega
theorem top_eq {ks : List Int} {m : Int} (h : Cnt ks) (h1 : m ∈ ks) (h2 : ∀ y, y ∈ ks → y ≤ m) : top ks = m := (by exact HA.Wq.get : @HA.Wq (top ks = m) (by
  have h0 : ks ≠ [] := fun e => by subst e; exact nomatch h1
  have := h2 _ (h.top_mem h0)
  have := le_top h1
  omega))
/-- as bits -/
def wb : Nat → (Nat → Bool) → Nat
  | 0, _ => 0
  | s + 1, p => wb s p ||| (if p s then 2 ^ s else 0)
theorem wb_bit (s : Nat) (p : Nat → Bool) (d : Nat) : (wb s p).testBit d = (decide (d < s) && p d) := (by exact HA.Wq.get : @HA.Wq ((wb s p).testBit d = (decide (d < s) && p d)) (by
  induction s with
  | zero => show (0 : Nat).testBit d = _; simp
  | succ s ih =>
    show (wb s p ||| (if p s then 2 ^ s else 0)).testBit d = _
    rw [Nat.testBit_or, ih]
    by_cases hp : p s = true
    · rw [if_pos hp, Nat.testBit_two_pow]
      by_cases h1 : d < s
      · simp [h1, show d < s + 1 by omega, show ¬ s = d by omega]
      · by_cases h2 : s = d
        · subst h2; simp [hp]
        · simp [h1, h2, show ¬ d < s + 1 by omega]
    · rw [if_neg hp, Nat.zero_testBit, Bool.or_false]
      by_cases h1 : d < s
      · simp [h1, show d < s + 1 by omega]
      · by_cases h2 : s = d
        · subst h2; simp [hp]
        · simp [h1, show ¬ d < s + 1 by omega]))
theorem wb_lt (s : Nat) (p : Nat → Bool) : wb s p < 2 ^ s := Nat.lt_pow_two_of_testBit _ fun i hi => by rw [wb_bit]; simp; omega
theorem wb_eq {s : Nat} {p : Nat → Bool} {x : Nat} (h : ∀ d, x.testBit d = (decide (d < s) && p d)) : x = wb s p := Nat.eq_of_testBit_eq fun d => by rw [h, wb_bit]
/-- the word of a window -/
def wrdN (s : Nat) (ks : List Int) (c : Int) : Nat := if ks ≠ [] ∧ c ≤ top ks - s then 0 else if c ∈ ks then 1 else 2
def isNew (s : Nat) (ks : List Int) (c : Int) : Bool := decide (wrdN s ks c = 2)
/-- what is kept behind a counter -/
def tk (s : Nat) (ks : List Int) (c : Int) : List Int := if isNew s ks c then ks ++ [c] else ks
def wnB (s : Nat) (ks : List Int) : Nat := wb s fun d => decide (top ks - (d : Int) ∈ ks)
theorem wnB_nil {s : Nat} : wnB s [] = 0 := (wb_eq (x := 0) fun d => by simp).symm
theorem wnB_rise {s : Nat} {ks : List Int} {c : Int} (hc : top ks < c) (hk : Cnt ks) (hs : 1 ≤ s) (r : Nat) (hr : if ks = [] then r = s else (r : Int) = min (s : Int) (c - top ks)) :
    ((wnB s ks <<< r) &&& (2 ^ s - 1)) ||| 1 = wnB s (ks ++ [c]) := (by exact HA.Wq.get : @HA.Wq (((wnB s ks <<< r) &&& (2 ^ s - 1)) ||| 1 = wnB s (ks ++ [c])) (by
  refine wb_eq fun d => ?_
  have e : top (ks ++ [c]) = c := by rw [top_app]; omega
  rw [Nat.testBit_or, Nat.testBit_and, Nat.testBit_two_pow_sub_one, Nat.testBit_shiftLeft, wnB, wb_bit, e]
  have e1 : (1 : Nat).testBit d = decide (d = 0) := by
    rw [show (1 : Nat) = 2 ^ 0 from rfl, Nat.testBit_two_pow]; exact decide_eq_decide.mpr ⟨fun h => h.symm, fun h => h.symm⟩
  rw [e1]
  by_cases d0 : d = 0
  · subst d0; simp; omega
  · have e2 : (c - (d : Int) ∈ ks ++ [c]) ↔ c - (d : Int) ∈ ks := by
      rw [List.mem_append, List.mem_singleton]
      exact ⟨fun h => h.elim id fun h => by omega, .inl⟩
    have e3 : decide (c - (d : Int) ∈ ks ++ [c]) = decide (c - (d : Int) ∈ ks) := decide_eq_decide.mpr e2
    rw [e3]
    by_cases hd : d < s
    · by_cases hk0 : ks = []
      · subst hk0; simp [d0]
      · rw [if_neg hk0] at hr
        by_cases h1 : r ≤ d
        · by_cases h2 : (r : Int) = c - top ks
          · have e4 : top ks - ((d - r : Nat) : Int) = c - (d : Int) := by omega
            rw [e4]
            simp [d0, hd, h1, show d - r < s by omega]
          · omega
        · have n1 : ¬ c - (d : Int) ∈ ks := fun h => by have := le_top h; omega
          simp [d0, h1, n1]
    · simp [d0, hd]))
theorem wnB_in {s : Nat} {ks : List Int} {c : Int} (hc : c ≤ top ks) (h1 : top ks - s < c) : wnB s ks ||| 1 <<< (top ks - c).toNat = wnB s (ks ++ [c]) := (by exact HA.Wq.get : @HA.Wq (wnB s ks ||| 1 <<< (top ks - c).toNat = wnB s (ks ++ [c])) (by
  refine wb_eq fun d => ?_
  have e : top (ks ++ [c]) = top ks := by rw [top_app]; omega
  rw [Nat.testBit_or, Nat.shiftLeft_eq, Nat.one_mul, Nat.testBit_two_pow, wnB, wb_bit, e]
  by_cases hd : (top ks - c).toNat = d
  · have e2 : top ks - (d : Int) = c := by omega
    rw [e2]; simp [hd, show d < s by omega]
  · have e2 : (top ks - (d : Int) ∈ ks ++ [c]) ↔ top ks - (d : Int) ∈ ks := by
      rw [List.mem_append, List.mem_singleton]
      exact ⟨fun h => h.elim id fun h => by omega, .inl⟩
    have e3 : decide (top ks - (d : Int) ∈ ks ++ [c]) = decide (top ks - (d : Int) ∈ ks) := decide_eq_decide.mpr e2
    rw [e3]; simp [hd]))
theorem wnB_at {s : Nat} {ks : List Int} {c : Int} (hc : c ≤ top ks) (h1 : top ks - s < c) : (wnB s ks >>> (top ks - c).toNat) &&& 1 = if c ∈ ks then 1 else 0 := (by exact HA.Wq.get : @HA.Wq ((wnB s ks >>> (top ks - c).toNat) &&& 1 = if c ∈ ks then 1 else 0) (by
  have h : ((wnB s ks >>> (top ks - c).toNat) &&& 1) = ((wnB s ks).testBit (top ks - c).toNat).toNat := by
    rw [Nat.testBit, Nat.and_comm 1, ]
    have : wnB s ks >>> (top ks - c).toNat &&& 1 < 2 := by rw [Nat.and_one_is_mod]; omega
    generalize wnB s ks >>> (top ks - c).toNat &&& 1 = v at *
    match v, this with
    | 0, _ => rfl
    | 1, _ => rfl
  rw [h, wnB, wb_bit, show top ks - ((top ks - c).toNat : Int) = c by omega]
  by_cases hk : c ∈ ks <;> simp [hk] ; omega))
/-- the numbers from lo on -/
def rgI (lo : Int) (n : Nat) : List Int := (List.range n).map fun (j : Nat) => lo + (j : Int)
theorem mem_rgI {lo c : Int} {n : Nat} : c ∈ rgI lo n ↔ lo ≤ c ∧ c < lo + n := by
  unfold rgI
  rw [List.mem_map]
  exact ⟨fun ⟨j, h, e⟩ => by have := List.mem_range.mp h; omega, fun h => ⟨(c - lo).toNat, List.mem_range.mpr (by omega), by omega⟩⟩
theorem rgI_lt {lo : Int} {n : Nat} : (rgI lo n).Pairwise (· < ·) := by
  unfold rgI
  rw [List.pairwise_map]
  exact List.pairwise_lt_range.imp fun h => by omega
/-- the counters of a window, held or missing -/
def wlo (s : Nat) (ks : List Int) : Int := max 0 (top ks - s + 1)
def blw (s : Nat) (ks : List Int) (b : Bool) : List Int := if ks = [] then [] else (rgI (wlo s ks) (top ks + 1 - wlo s ks).toNat).filter fun c => decide (c ∈ ks) == b
theorem mem_blw {s : Nat} {ks : List Int} {b : Bool} {c : Int} (h : Cnt ks) : c ∈ blw s ks b ↔ ks ≠ [] ∧ wlo s ks ≤ c ∧ c ≤ top ks ∧ decide (c ∈ ks) = b := (by exact HA.Wq.get : @HA.Wq (c ∈ blw s ks b ↔ ks ≠ [] ∧ wlo s ks ≤ c ∧ c ≤ top ks ∧ decide (c ∈ ks) = b) (by
  unfold blw
  by_cases h0 : ks = []
  · rw [if_pos h0]; simp [h0]
  · have := h.top0 h0
    rw [if_neg h0, List.mem_filter, mem_rgI]
    simp only [beq_iff_eq, ne_eq, h0, not_false_eq_true, true_and]
    unfold wlo
    constructor
    · intro ⟨⟨a1, a2⟩, a3⟩; exact ⟨a1, by omega, a3⟩
    · intro ⟨a1, a2, a3⟩; exact ⟨⟨a1, by omega⟩, a3⟩))
theorem blw_lt {s : Nat} {ks : List Int} {b : Bool} : (blw s ks b).Pairwise (· < ·) := (by exact HA.Wq.get : @HA.Wq ((blw s ks b).Pairwise (· < ·)) (by
  unfold blw
  split
  · exact .nil
  · exact rgI_lt.filter _))
/-- ascending rows of the same things are the same -/
theorem asc_eq : ∀ {a b : List Int}, a.Pairwise (· < ·) → b.Pairwise (· < ·) → (∀ c, c ∈ a ↔ c ∈ b) → a = b
  | [], [], _, _, _ => rfl
  | [], y :: b, _, _, h => nomatch (h y).mpr (.head _)
  | x :: a, [], _, _, h => nomatch (h x).mp (.head _)
  | x :: a, y :: b, ha, hb, h => by
    have ha1 := List.pairwise_cons.mp ha
    have hb1 := List.pairwise_cons.mp hb
    have e : x = y := by
      rcases List.mem_cons.mp ((h x).mp (.head _)) with e | e
      · exact e
      · rcases List.mem_cons.mp ((h y).mpr (.head _)) with e2 | e2
        · exact e2.symm
        · have h1 := ha1.1 _ e2
          have h2 := hb1.1 _ e
          omega
    subst e
    rw [asc_eq ha1.2 hb1.2 fun c => ⟨fun hc => ?_, fun hc => ?_⟩]
    · rcases List.mem_cons.mp ((h c).mp (.tail _ hc)) with e | e
      · have := ha1.1 _ hc; omega
      · exact e
    · rcases List.mem_cons.mp ((h c).mpr (.tail _ hc)) with e | e
      · have := hb1.1 _ hc; omega
      · exact e
theorem asc_of_nodup {a : List Int} (h : a.Pairwise (· ≤ ·)) (n : a.Nodup) : a.Pairwise (· < ·) := by
  have := h.and n
  exact this.imp fun ⟨h1, h2⟩ => by omega
end Sh
/-! PW: windows: what each def promises -/
namespace Sh
open PySem PySem.Spec L2 HA
def wrd (s : Nat) (ks : List Int) (c : Int) : Str := match wrdN s ks c with | 0 => "old" | 1 => "taken" | _ => "new"
def wnL (ks : List Int) : D := if ks = [] then .non else .int (top ks)
def wnC (z : Wd) (s : Nat) (ks : List Int) : Cell := .ins (z.C 24) [("size", .int s), ("_last", wnL ks), ("_bits", .int (wnB s ks))]
def szQ : D → Bool | .int i => decide (1 ≤ i ∧ i ≤ 1024) | _ => false
abbrev cq (x : D) : Bool := belQ x 9223372036854775808
def sp_is_counter (z : Wd) : ASp := fun ds M Q _ => ∃ x : D, ds = [x] ∧ Any1 x ∧ Q (.bl (cq x)) M
def sp_need_counter (z : Wd) : ASp := fun ds M Q E => ∃ x : D, ds = [x] ∧ Any1 x ∧ (cq x = true → Q .non M) ∧ (cq x = false → E (z.C 10) [("word", .str "counter")] M)
def sp_need_size (z : Wd) : ASp := fun ds M Q E => ∃ x : D, ds = [x] ∧ Any1 x ∧ (szQ x = true → Q .non M) ∧ (szQ x = false → E (z.C 10) [("word", .str "size")] M)
def sp_Window___init__ (z : Wd) : ASp := fun ds M Q E => ∃ (a : Addr) (x : D), ds = [.ref a, x] ∧ M a = some (.ins (z.C 24) []) ∧ Any1 x ∧ (∀ s : Nat, x = .int s → 1 ≤ s → s ≤ 1024 → Q .non (mset M a (wnC z s []))) ∧ (szQ x = false → E (z.C 10) [("word", .str "size")] M)
/-- a window at a, of size s, behind the counters ks -/
structure WnAt (z : Wd) (M : Mem) (a : Addr) (s : Nat) (ks : List Int) : Prop where
  at' : M a = some (wnC z s ks)
  s1 : 1 ≤ s
  s2 : s ≤ 1024
  cnt : Cnt ks
def sp_Window_judge (z : Wd) : ASp := fun ds M Q E => ∃ (a : Addr) (s : Nat) (ks : List Int) (x : D), ds = [.ref a, x] ∧ WnAt z M a s ks ∧ Any1 x ∧ (∀ c : Int, x = .int c → 0 ≤ c → c < 9223372036854775808 → Q (.str (wrd s ks c)) M) ∧ (cq x = false → E (z.C 10) [("word", .str "counter")] M)
def sp_Window_take (z : Wd) : ASp := fun ds M Q E => ∃ (a : Addr) (s : Nat) (ks : List Int) (x : D), ds = [.ref a, x] ∧ WnAt z M a s ks ∧ Any1 x ∧ (∀ c : Int, x = .int c → 0 ≤ c → c < 9223372036854775808 → Q (.bl (isNew s ks c)) (mset M a (wnC z s (tk s ks c)))) ∧ (cq x = false → E (z.C 10) [("word", .str "counter")] M)
def sp_Window_greatest (z : Wd) : ASp := fun ds M Q _ => ∃ (a : Addr) (s : Nat) (ks : List Int), ds = [.ref a] ∧ M a = some (wnC z s ks) ∧ Q (wnL ks) M
def sp_Window__below (z : Wd) : ASp := fun ds M Q _ => ∃ (a : Addr) (s : Nat) (ks : List Int) (b : Bool), ds = [.ref a, .int (if b then 1 else 0)] ∧ WnAt z M a s ks ∧ top ks < 9223372036854775807 ∧ Q (tI (blw s ks b)) M
def sp_Window_held (z : Wd) : ASp := fun ds M Q _ => ∃ (a : Addr) (s : Nat) (ks : List Int), ds = [.ref a] ∧ WnAt z M a s ks ∧ top ks < 9223372036854775807 ∧ Q (tI (blw s ks true)) M
def sp_Window_missing (z : Wd) : ASp := fun ds M Q _ => ∃ (a : Addr) (s : Nat) (ks : List Int), ds = [.ref a] ∧ WnAt z M a s ks ∧ top ks < 9223372036854775807 ∧ Q (tI (blw s ks false)) M
end Sh
/-! readings of shared defs (printed by gen4.py) -/
namespace Sh
open PySem PySem.Spec L2 HA
/-! def is_counter -/
abbrev N_is_counter : List Str := ["value"]
abbrev ps_is_counter : List Str := ["value"]
abbrev t_is_counter_1 (z : Wd) : ASt := (aRet (aAndV (aCall (sp_is_integer z) 1 0 [0] (aCons (aVar 0) aNil) aNil) (aChain oLe oLt (aC (.int 0)) (aVar 0) (aC (.int 9223372036854775808)))))
abbrev t_is_counter (z : Wd) : ASt := (t_is_counter_1 z)
/-! def need_counter -/
abbrev N_need_counter : List Str := ["value"]
abbrev ps_need_counter : List Str := ["value"]
abbrev t_need_counter_1 (z : Wd) : ASt := (aRaise (z.C 10) "word" (aC (.str "counter")))
abbrev t_need_counter_2 (z : Wd) : ASt := (aIf (aNotT (aTruth (aCall (sp_is_counter z) 1 0 [0] (aCons (aVar 0) aNil) aNil))) (t_need_counter_1 z) aNext)
abbrev t_need_counter (z : Wd) : ASt := (t_need_counter_2 z)
/-! def need_size -/
abbrev N_need_size : List Str := ["value"]
abbrev ps_need_size : List Str := ["value"]
abbrev t_need_size_1 (z : Wd) : ASt := (aRaise (z.C 10) "word" (aC (.str "size")))
abbrev t_need_size_2 (z : Wd) : ASt := (aIf (aOrT (aNotT (aTruth (aCall (sp_is_integer z) 1 0 [0] (aCons (aVar 0) aNil) aNil))) (aNotT (aTest (aChain oLe oLe (aC (.int 1)) (aVar 0) (aC (.int 1024)))))) (t_need_size_1 z) aNext)
abbrev t_need_size (z : Wd) : ASt := (t_need_size_2 z)
/-! def Window.__init__ -/
abbrev N_Window___init__ : List Str := ["self", "size"]
abbrev ps_Window___init__ : List Str := ["self", "size"]
abbrev t_Window___init___1 (z : Wd) : ASt := (aDrop (aCall (sp_need_size z) 1 0 [0] (aCons (aVar 1) aNil) aNil))
abbrev t_Window___init___2 (z : Wd) : ASt := (aFldS z.K (aVar 0) (aVar 1) "size")
abbrev t_Window___init___3 (z : Wd) : ASt := (aFldS z.K (aVar 0) (aC .non) "_last")
abbrev t_Window___init___4 (z : Wd) : ASt := (aFldS z.K (aVar 0) (aC (.int 0)) "_bits")
abbrev t_Window___init___5 (z : Wd) : ASt := aSeq (t_Window___init___3 z) (t_Window___init___4 z)
abbrev t_Window___init___6 (z : Wd) : ASt := aSeq (t_Window___init___2 z) (t_Window___init___5 z)
abbrev t_Window___init___7 (z : Wd) : ASt := aSeq (t_Window___init___1 z) (t_Window___init___6 z)
abbrev t_Window___init__ (z : Wd) : ASt := (t_Window___init___7 z)
/-! def Window.judge -/
abbrev N_Window_judge : List Str := ["self", "counter"]
abbrev ps_Window_judge : List Str := ["self", "counter"]
abbrev t_Window_judge_1 (z : Wd) : ASt := (aDrop (aCall (sp_need_counter z) 1 0 [0] (aCons (aVar 1) aNil) aNil))
abbrev t_Window_judge_2 (z : Wd) : ASt := (aRet (aC (.str "new")))
abbrev t_Window_judge_3 (z : Wd) : ASt := (aIf (aOrT (aTest (aOp oIs (aFld z.K (aVar 0) "_last") (aC .non))) (aTest (aOp oGt (aVar 1) (aFld z.K (aVar 0) "_last")))) (t_Window_judge_2 z) aNext)
abbrev t_Window_judge_4 (z : Wd) : ASt := (aRet (aC (.str "old")))
abbrev t_Window_judge_5 (z : Wd) : ASt := (aIf (aTest (aOp oLe (aVar 1) (aOp oSub (aFld z.K (aVar 0) "_last") (aFld z.K (aVar 0) "size")))) (t_Window_judge_4 z) aNext)
abbrev t_Window_judge_6 (z : Wd) : ASt := (aRet (aIfE (aTest (aOp oEq (aOp oAnd (aOp oShr (aFld z.K (aVar 0) "_bits") (aOp oSub (aFld z.K (aVar 0) "_last") (aVar 1))) (aC (.int 1))) (aC (.int 1)))) (aC (.str "taken")) (aC (.str "new"))))
abbrev t_Window_judge_7 (z : Wd) : ASt := aSeq (t_Window_judge_5 z) (t_Window_judge_6 z)
abbrev t_Window_judge_8 (z : Wd) : ASt := aSeq (t_Window_judge_3 z) (t_Window_judge_7 z)
abbrev t_Window_judge_9 (z : Wd) : ASt := aSeq (t_Window_judge_1 z) (t_Window_judge_8 z)
abbrev t_Window_judge (z : Wd) : ASt := (t_Window_judge_9 z)
/-! def Window.take -/
abbrev N_Window_take : List Str := ["self", "counter", "rise"]
abbrev ps_Window_take : List Str := ["self", "counter"]
abbrev t_Window_take_1 (z : Wd) : ASt := (aRet (aC (.bl false)))
abbrev t_Window_take_2 (z : Wd) : ASt := (aIf (aTest (aOp oNe (aMeth (z.C 24) "judge" (sp_Window_judge z) 1 [0, 1] (aVar 0) (aCons (aVar 1) aNil)) (aC (.str "new")))) (t_Window_take_1 z) aNext)
abbrev t_Window_take_3 (z : Wd) : ASt := (aAsg (aIfE (aTest (aOp oIs (aFld z.K (aVar 0) "_last") (aC .non))) (aFld z.K (aVar 0) "size") (aCB cMin (aCons (aFld z.K (aVar 0) "size") (aCons (aOp oSub (aVar 1) (aFld z.K (aVar 0) "_last")) aNil)))) (agName 2))
abbrev t_Window_take_4 (z : Wd) : ASt := (aFldS z.K (aVar 0) (aOp oOr (aOp oAnd (aOp oShl (aFld z.K (aVar 0) "_bits") (aVar 2)) (aOp oSub (aOp oShl (aC (.int 1)) (aFld z.K (aVar 0) "size")) (aC (.int 1)))) (aC (.int 1))) "_bits")
abbrev t_Window_take_5 (z : Wd) : ASt := (aFldS z.K (aVar 0) (aVar 1) "_last")
abbrev t_Window_take_6 (z : Wd) : ASt := aSeq (t_Window_take_4 z) (t_Window_take_5 z)
abbrev t_Window_take_7 (z : Wd) : ASt := aSeq (t_Window_take_3 z) (t_Window_take_6 z)
abbrev t_Window_take_8 (z : Wd) : ASt := (aFldS z.K (aVar 0) (aOp oOr (aFld z.K (aVar 0) "_bits") (aOp oShl (aC (.int 1)) (aOp oSub (aFld z.K (aVar 0) "_last") (aVar 1)))) "_bits")
abbrev t_Window_take_9 (z : Wd) : ASt := (aIf (aOrT (aTest (aOp oIs (aFld z.K (aVar 0) "_last") (aC .non))) (aTest (aOp oGt (aVar 1) (aFld z.K (aVar 0) "_last")))) (t_Window_take_7 z) (t_Window_take_8 z))
abbrev t_Window_take_10 (z : Wd) : ASt := (aRet (aC (.bl true)))
abbrev t_Window_take_11 (z : Wd) : ASt := aSeq (t_Window_take_9 z) (t_Window_take_10 z)
abbrev t_Window_take_12 (z : Wd) : ASt := aSeq (t_Window_take_2 z) (t_Window_take_11 z)
abbrev t_Window_take (z : Wd) : ASt := (t_Window_take_12 z)
/-! def Window.greatest -/
abbrev N_Window_greatest : List Str := ["self"]
abbrev ps_Window_greatest : List Str := ["self"]
abbrev t_Window_greatest_1 (z : Wd) : ASt := (aRet (aFld z.K (aVar 0) "_last"))
abbrev t_Window_greatest (z : Wd) : ASt := (t_Window_greatest_1 z)
/-! def Window._below -/
abbrev N_Window__below : List Str := ["self", "bit", "first", "counters", "counter"]
abbrev ps_Window__below : List Str := ["self", "bit"]
abbrev t_Window__below_1 (z : Wd) : ASt := (aRet (aTup aNil))
abbrev t_Window__below_2 (z : Wd) : ASt := (aIf (aTest (aOp oIs (aFld z.K (aVar 0) "_last") (aC .non))) (t_Window__below_1 z) aNext)
abbrev t_Window__below_3 (z : Wd) : ASt := (aAsg (aCB cMax (aCons (aC (.int 0)) (aCons (aOp bAddF (aOp oSub (aFld z.K (aVar 0) "_last") (aFld z.K (aVar 0) "size")) (aC (.int 1))) aNil))) (agName 2))
abbrev t_Window__below_4 (z : Wd) : ASt := (aAsg (aCB cRng (aCons (aVar 2) (aCons (aOp bAddF (aFld z.K (aVar 0) "_last") (aC (.int 1))) aNil))) (agName 3))
abbrev t_Window__below_5 (z : Wd) : ASt := (aRet (aCB cTuple (aCons (aLcF (aWalkR (aVar 3)) (agName 4) (aTest (aOp oEq (aOp oAnd (aOp oShr (aFld z.K (aVar 0) "_bits") (aOp oSub (aFld z.K (aVar 0) "_last") (aVar 4))) (aC (.int 1))) (aVar 1))) (aVar 4) [4]) aNil)))
abbrev t_Window__below_6 (z : Wd) : ASt := aSeq (t_Window__below_4 z) (t_Window__below_5 z)
abbrev t_Window__below_7 (z : Wd) : ASt := aSeq (t_Window__below_3 z) (t_Window__below_6 z)
abbrev t_Window__below_8 (z : Wd) : ASt := aSeq (t_Window__below_2 z) (t_Window__below_7 z)
abbrev t_Window__below (z : Wd) : ASt := (t_Window__below_8 z)
/-! def Window.held -/
abbrev N_Window_held : List Str := ["self"]
abbrev ps_Window_held : List Str := ["self"]
abbrev t_Window_held_1 (z : Wd) : ASt := (aRet (aMeth (z.C 24) "_below" (sp_Window__below z) 1 [0, 1] (aVar 0) (aCons (aC (.int 1)) aNil)))
abbrev t_Window_held (z : Wd) : ASt := (t_Window_held_1 z)
/-! def Window.missing -/
abbrev N_Window_missing : List Str := ["self"]
abbrev ps_Window_missing : List Str := ["self"]
abbrev t_Window_missing_1 (z : Wd) : ASt := (aRet (aMeth (z.C 24) "_below" (sp_Window__below z) 1 [0, 1] (aVar 0) (aCons (aC (.int 0)) aNil)))
abbrev t_Window_missing (z : Wd) : ASt := (t_Window_missing_1 z)
end Sh
set_option maxHeartbeats 1000000
namespace Sh
open PySem PySem.Spec L2 HA
abbrev wnA : List Str := ["size", "_last", "_bits"]
theorem len_is_counter (z : Wd) : ∀ ds M Q E, sp_is_counter z ds M Q E → ds.length = ps_is_counter.length := by
  intro ds M Q E h; repeat (first | (obtain ⟨rfl, _⟩ := h; rfl) | (obtain ⟨_, h⟩ := h))
theorem v_is_counter (z : Wd) : ∀ ds M Q E, sp_is_counter z ds M Q E → t_is_counter z (pureE M Q E) (startA N_is_counter ds) M := (by exact HA.Wq.get : @HA.Wq (∀ ds M Q E, sp_is_counter z ds M Q E → t_is_counter z (pureE M Q E) (startA N_is_counter ds) M) (by
  intro ds M Q E ⟨x, h, hx, q⟩
  subst h
  walk_at "start"
  walk_at "r"
  refine c_is_integer z hx ?_
  cases x with
  | frz _ => exact hx.elim
  | ref _ => exact hx.elim
  | ty _ => exact hx.elim
  | int i =>
    unfold isIntQ
    walk_at "r"
    unfold cq belQ at q
    dsimp only at q
    refine ⟨fun h => ?_, fun h => ?_⟩
    · have h := of_decide_eq_true h
      walk_at "r"
      rw [show decide (i < 9223372036854775808) = decide (0 ≤ i ∧ i < 9223372036854775808) from decide_eq_decide.mpr ⟨fun x => ⟨h, x⟩, fun x => x.2⟩]
      exact q
    · have h := of_decide_eq_false h
      rw [decide_eq_false (fun x => h x.1)] at q
      walk_at "r"
      exact q
  | _ => unfold isIntQ; walk_at "r"; exact q))
theorem c_is_counter (z : Wd) {x : D} {M : Mem} {Q : DK} {E : AX} (hx : Any1 x) (h : Q (.bl (cq x)) M) : sp_is_counter z [x] M Q E := ⟨x, rfl, hx, h⟩
theorem len_need_counter (z : Wd) : ∀ ds M Q E, sp_need_counter z ds M Q E → ds.length = ps_need_counter.length := by
  intro ds M Q E h; repeat (first | (obtain ⟨rfl, _⟩ := h; rfl) | (obtain ⟨_, h⟩ := h))
theorem v_need_counter (z : Wd) (ok : ErrR z 10 "word") : ∀ ds M Q E, sp_need_counter z ds M Q E → t_need_counter z (pureE M Q E) (startA N_need_counter ds) M := (by exact HA.Wq.get : @HA.Wq (∀ ds M Q E, sp_need_counter z ds M Q E → t_need_counter z (pureE M Q E) (startA N_need_counter ds) M) (by
  intro ds M Q E ⟨x, h, hx, q, qx⟩
  subst h
  walk_at "start"
  walk_at "r"
  refine c_is_counter z hx ?_
  cases hq : cq x with
  | true => walk_at "r"; exact q hq
  | false => walk_at "r"; exact qx hq))
theorem c_need_counter (z : Wd) {c : Int} {M : Mem} {Q : DK} {E : AX} (h0 : 0 ≤ c) (h1 : c < 9223372036854775808) (h : Q .non M) : sp_need_counter z [.int c] M Q E :=
  have e : cq (.int c) = true := decide_eq_true ⟨h0, h1⟩
  ⟨_, rfl, trivial, fun _ => h, fun x => by rw [e] at x; cases x⟩
theorem c_need_counterX (z : Wd) {x : D} {M : Mem} {Q : DK} {E : AX} (hx : Any1 x) (e : cq x = false) (h : E (z.C 10) [("word", .str "counter")] M) : sp_need_counter z [x] M Q E :=
  ⟨_, rfl, hx, (fun y => by rw [e] at y; cases y), fun _ => h⟩
theorem len_need_size (z : Wd) : ∀ ds M Q E, sp_need_size z ds M Q E → ds.length = ps_need_size.length := by
  intro ds M Q E h; repeat (first | (obtain ⟨rfl, _⟩ := h; rfl) | (obtain ⟨_, h⟩ := h))
theorem v_need_size (z : Wd) (ok : ErrR z 10 "word") : ∀ ds M Q E, sp_need_size z ds M Q E → t_need_size z (pureE M Q E) (startA N_need_size ds) M := (by exact HA.Wq.get : @HA.Wq (∀ ds M Q E, sp_need_size z ds M Q E → t_need_size z (pureE M Q E) (startA N_need_size ds) M) (by
  intro ds M Q E ⟨x, h, hx, q, qx⟩
  subst h
  walk_at "start"
  walk_at "r"
  refine c_is_integer z hx ?_
  cases x with
  | frz _ => exact hx.elim
  | ref _ => exact hx.elim
  | ty _ => exact hx.elim
  | int i =>
    unfold isIntQ
    unfold szQ at q qx
    dsimp only at q qx
    walk_at "r"
    refine ⟨fun h => ?_, fun h => ?_⟩
    · have h := of_decide_eq_true h
      walk_at "r"
      refine ⟨fun h2 => ?_, fun h2 => ?_⟩
      · walk_at "r"
        exact qx (decide_eq_false fun x => by simp at h2; omega)
      · walk_at "r"
        exact q (decide_eq_true (by simp at h2; omega))
    · have h := of_decide_eq_false h
      walk_at "r"
      exact qx (decide_eq_false fun x => h x.1)
  | _ => unfold isIntQ; walk_at "r"; exact qx rfl))
theorem c_need_size (z : Wd) {s : Nat} {M : Mem} {Q : DK} {E : AX} (h0 : 1 ≤ s) (h1 : s ≤ 1024) (h : Q .non M) : sp_need_size z [.int s] M Q E :=
  have e : szQ (.int (s : Int)) = true := decide_eq_true ⟨by omega, by omega⟩
  ⟨_, rfl, trivial, fun _ => h, fun x => by rw [e] at x; cases x⟩
theorem c_need_sizeX (z : Wd) {x : D} {M : Mem} {Q : DK} {E : AX} (hx : Any1 x) (e : szQ x = false) (h : E (z.C 10) [("word", .str "size")] M) : sp_need_size z [x] M Q E :=
  ⟨_, rfl, hx, (fun y => by rw [e] at y; cases y), fun _ => h⟩
theorem len_Window___init__ (z : Wd) : ∀ ds M Q E, sp_Window___init__ z ds M Q E → ds.length = ps_Window___init__.length := by
  intro ds M Q E h; repeat (first | (obtain ⟨rfl, _⟩ := h; rfl) | (obtain ⟨_, h⟩ := h))
theorem wnC_nil (z : Wd) {s : Nat} : wnC z s [] = .ins (z.C 24) [("size", .int s), ("_last", .non), ("_bits", .int 0)] := by unfold wnC; rw [wnB_nil]; rfl
theorem v_Window___init__ (z : Wd) (ok : ClsOk z 24 wnA) : ∀ ds M Q E, sp_Window___init__ z ds M Q E → t_Window___init__ z (anyE Q E) (startA N_Window___init__ ds) M := (by exact HA.Wq.get : @HA.Wq (∀ ds M Q E, sp_Window___init__ z ds M Q E → t_Window___init__ z (anyE Q E) (startA N_Window___init__ ds) M) (by
  intro ds M Q E ⟨a, x, h, hM, hx, q, qx⟩
  subst h
  walk_at "start"
  walk_at "r"
  cases hq : szQ x with
  | true =>
    cases x with
    | int i =>
      have hi : 1 ≤ i ∧ i ≤ 1024 := of_decide_eq_true hq
      obtain ⟨s, rfl⟩ : ∃ s : Nat, i = (s : Int) := ⟨i.toNat, by omega⟩
      refine c_need_size z (by omega) (by omega) ?_
      have q := q s rfl (by omega) (by omega)
      rw [wnC_nil] at q
      walk_at "r"
      exact ⟨_, .refl _, q⟩
    | _ => exact nomatch hq
  | false =>
    refine c_need_sizeX z hx hq ?_
    exact ⟨_, .refl _, qx hq⟩))
theorem c_Window___init__ (z : Wd) {a : Addr} {s : Nat} {M : Mem} {Q : DK} {E : AX} (h1 : 1 ≤ s) (h2 : s ≤ 1024) (h : Q .non (mset M a (wnC z s []))) : sp_Window___init__ z [.ref a, .int s] (mset M a (.ins (z.C 24) [])) Q E :=
  have e : szQ (.int (s : Int)) = true := decide_eq_true ⟨by omega, by omega⟩
  ⟨a, .int s, rfl, mset_same, trivial, fun t ht _ _ => by have : t = s := by injection ht with ht; omega
                                                          subst this; rw [mset_mset]; exact h, fun x => by rw [e] at x; cases x⟩
theorem c_Window___init__X (z : Wd) {a : Addr} {x : D} {M : Mem} {Q : DK} {E : AX} (hx : Any1 x) (e : szQ x = false) (h : E (z.C 10) [("word", .str "size")] (mset M a (.ins (z.C 24) []))) : sp_Window___init__ z [.ref a, x] (mset M a (.ins (z.C 24) [])) Q E :=
  ⟨a, x, rfl, mset_same, hx, fun t ht h1 h2 => by subst ht; exact absurd e (by simp [szQ]; omega), fun _ => h⟩
theorem wnL_nil : wnL [] = .non := rfl
theorem wnL_some {ks : List Int} (h : ks ≠ []) : wnL ks = .int (top ks) := if_neg h
theorem len_Window_judge (z : Wd) : ∀ ds M Q E, sp_Window_judge z ds M Q E → ds.length = ps_Window_judge.length := by
  intro ds M Q E h; repeat (first | (obtain ⟨rfl, _⟩ := h; rfl) | (obtain ⟨_, h⟩ := h))
theorem cq_int {x : D} (h : cq x = true) : ∃ c : Int, x = .int c ∧ 0 ≤ c ∧ c < 9223372036854775808 := by
  cases x with
  | int c => exact ⟨c, rfl, of_decide_eq_true h⟩
  | _ => exact nomatch h
theorem wrd_old {s : Nat} {ks : List Int} {c : Int} (h0 : ks ≠ []) (h : c ≤ top ks - s) : wrd s ks c = "old" := by unfold wrd wrdN; rw [if_pos ⟨h0, h⟩]; rfl
theorem wrd_taken {s : Nat} {ks : List Int} {c : Int} (h : ¬ (ks ≠ [] ∧ c ≤ top ks - s)) (h2 : c ∈ ks) : wrd s ks c = "taken" := by unfold wrd wrdN; rw [if_neg h, if_pos h2]; rfl
theorem wrd_new {s : Nat} {ks : List Int} {c : Int} (h : ¬ (ks ≠ [] ∧ c ≤ top ks - s)) (h2 : c ∉ ks) : wrd s ks c = "new" := by unfold wrd wrdN; rw [if_neg h, if_neg h2]; rfl
theorem band1 {x n : Nat} : Builtin.bitAnd ((x : Int) / 2 ^ n) 1 = ((x >>> n &&& 1 : Nat) : Int) := by
  have e : (x : Int) / 2 ^ n = ((x >>> n : Nat) : Int) := by rw [Nat.shiftRight_eq_div_pow, Int.natCast_ediv, Int.natCast_pow]; rfl
  rw [e]
  exact PySem.W.os_band (x >>> n) 1
theorem band_at {s : Nat} {ks : List Int} {c : Int} (hc : c ≤ top ks) (h1 : top ks - s < c) : Builtin.bitAnd ((wnB s ks : Int) / 2 ^ (top ks - c).toNat) 1 = if c ∈ ks then 1 else 0 := by
  rw [band1, wnB_at hc h1]; split <;> rfl
theorem v_Window_judge (z : Wd) (ok : ClsOk z 24 wnA) : ∀ ds M Q E, sp_Window_judge z ds M Q E → t_Window_judge z (pureE M Q E) (startA N_Window_judge ds) M := (by exact HA.Wq.get : @HA.Wq (∀ ds M Q E, sp_Window_judge z ds M Q E → t_Window_judge z (pureE M Q E) (startA N_Window_judge ds) M) (by
  intro ds M Q E ⟨a, s, ks, x, h, w, hx, q, qx⟩
  subst h
  obtain ⟨hM, h1, h2, hk⟩ := w
  walk_at "start"
  walk_at "r"
  cases hq : cq x with
  | false => exact c_need_counterX z hx hq ⟨.refl _, qx hq⟩
  | true =>
    obtain ⟨c, rfl, c0, c1⟩ := cq_int hq
    have q := q c rfl c0 c1
    refine c_need_counter z c0 c1 ?_
    unfold wnC at hM
    by_cases h0 : ks = []
    · subst h0
      rw [wnL_nil] at hM
      rw [wrd_new (by simp) (by simp)] at q
      walk_at "r"
      exact q
    · rw [wnL_some h0] at hM
      walk_at "r"
      refine br (fun h => ?_) (fun h => ?_)
      · rw [wrd_new (by omega) (fun x => by have := le_top x; omega)] at q
        walk_at "r"
        exact q
      · walk_at "r"
        refine br (fun h => ?_) (fun h => ?_)
        · rw [wrd_old h0 (by omega)] at q
          walk_at "r"
          exact q
        · walk_at "r"
          have ha := wnB_at (s := s) (ks := ks) (c := c) (by omega) (by omega)
          rw [band_at (by omega) (by omega)]
          by_cases hk2 : c ∈ ks
          · rw [wrd_taken (by omega) hk2] at q
            rw [if_pos hk2]
            walk_at "r"
            exact q
          · rw [wrd_new (by omega) hk2] at q
            rw [if_neg hk2]
            walk_at "r"
            exact q))
theorem c_Window_judge (z : Wd) {a : Addr} {s : Nat} {ks : List Int} {c : Int} {M : Mem} {Q : DK} {E : AX} (w : WnAt z M a s ks) (h0 : 0 ≤ c) (h1 : c < 9223372036854775808) (h : Q (.str (wrd s ks c)) M) : sp_Window_judge z [.ref a, .int c] M Q E :=
  have e : cq (.int c) = true := decide_eq_true ⟨h0, h1⟩
  ⟨a, s, ks, _, rfl, w, trivial, (fun c2 e2 _ _ => by injection e2 with e2; subst e2; exact h), fun x => by rw [e] at x; cases x⟩
theorem c_Window_judgeX (z : Wd) {a : Addr} {s : Nat} {ks : List Int} {x : D} {M : Mem} {Q : DK} {E : AX} (w : WnAt z M a s ks) (hx : Any1 x) (e : cq x = false) (h : E (z.C 10) [("word", .str "counter")] M) : sp_Window_judge z [.ref a, x] M Q E :=
  ⟨a, s, ks, _, rfl, w, hx, (fun c e2 h0 h1 => by subst e2; have : cq (.int c) = true := decide_eq_true ⟨h0, h1⟩; rw [e] at this; cases this), fun _ => h⟩
theorem wrd_eq {s : Nat} {ks : List Int} {c : Int} : (wrd s ks c = "new" ∧ isNew s ks c = true ∧ (ks = [] ∨ top ks - s < c) ∧ c ∉ ks) ∨ (wrd s ks c ≠ "new" ∧ isNew s ks c = false) := (by exact HA.Wq.get : @HA.Wq ((wrd s ks c = "new" ∧ isNew s ks c = true ∧ (ks = [] ∨ top ks - s < c) ∧ c ∉ ks) ∨ (wrd s ks c ≠ "new" ∧ isNew s ks c = false)) (by
  unfold wrd isNew wrdN
  by_cases h : ks ≠ [] ∧ c ≤ top ks - s
  · rw [if_pos h]; exact .inr ⟨by decide, rfl⟩
  · rw [if_neg h]
    by_cases h2 : c ∈ ks
    · rw [if_pos h2]; exact .inr ⟨by decide, rfl⟩
    · rw [if_neg h2]
      refine .inl ⟨rfl, rfl, ?_, h2⟩
      by_cases h0 : ks = []
      · exact .inl h0
      · exact .inr (by have : ¬ c ≤ top ks - s := fun x => h ⟨h0, x⟩
                       omega)))
theorem orN (a b : Nat) : Builtin.bitOr (a : Int) (b : Int) = ((a ||| b : Nat) : Int) := by
  rw [PyProof.Rows.bitOr_and, PySem.W.os_band]
  have := and_or_sum a b
  omega
theorem rise_eq {b r s : Nat} : Builtin.bitOr (Builtin.bitAnd ((b : Int) * 2 ^ r) (1 * 2 ^ s - 1)) 1 = (((b <<< r &&& (2 ^ s - 1)) ||| 1 : Nat) : Int) := (by exact HA.Wq.get : @HA.Wq (Builtin.bitOr (Builtin.bitAnd ((b : Int) * 2 ^ r) (1 * 2 ^ s - 1)) 1 = (((b <<< r &&& (2 ^ s - 1)) ||| 1 : Nat) : Int)) (by
  have e : (b : Int) * 2 ^ r = ((b <<< r : Nat) : Int) := by rw [Nat.shiftLeft_eq, Int.natCast_mul, Int.natCast_pow]; rfl
  have e2 : (1 : Int) * 2 ^ s - 1 = ((2 ^ s - 1 : Nat) : Int) := by
    have : 1 ≤ 2 ^ s := Nat.one_le_two_pow
    rw [Int.one_mul, Int.natCast_sub this, Int.natCast_pow]; rfl
  rw [e, e2, PySem.W.os_band]
  exact orN _ _))
theorem or_in {b r : Nat} : Builtin.bitOr (b : Int) (1 * 2 ^ r) = ((b ||| 1 <<< r : Nat) : Int) := by
  have e : (1 : Int) * (2 : Int) ^ r = ((1 <<< r : Nat) : Int) := by rw [Nat.shiftLeft_eq, Nat.one_mul, Int.one_mul, Int.natCast_pow, Int.cast_ofNat_Int]
  show Builtin.bitOr (b : Int) ((1 : Int) * (2 : Int) ^ r) = _
  rw [e]; exact orN _ _
theorem shlOk_1 {r : Nat} (h3 : r ≤ 10000) : ShlOk 1 (r : Int) := ShlOk.of (n := 1) (by omega) (by decide) (by omega)
theorem shlOk_b {b r n : Nat} (h : b < 2 ^ n) (h2 : n ≤ 10000) (h3 : r ≤ 10000) : ShlOk (b : Int) (r : Int) := ShlOk.of (n := n) (by omega) (by simpa using h) (by omega)
theorem len_Window_take (z : Wd) : ∀ ds M Q E, sp_Window_take z ds M Q E → ds.length = ps_Window_take.length := by
  intro ds M Q E h; repeat (first | (obtain ⟨rfl, _⟩ := h; rfl) | (obtain ⟨_, h⟩ := h))
theorem v_Window_take (z : Wd) (ok : ClsOk z 24 wnA) : ∀ ds M Q E, sp_Window_take z ds M Q E → t_Window_take z (anyE Q E) (startA N_Window_take ds) M := (by exact HA.Wq.get : @HA.Wq (∀ ds M Q E, sp_Window_take z ds M Q E → t_Window_take z (anyE Q E) (startA N_Window_take ds) M) (by
  intro ds M Q E ⟨a, s, ks, x, h, w, hx, q, qx⟩
  subst h
  have w0 := w
  obtain ⟨hM, h1, h2, hk⟩ := w
  have hb := wb_lt s fun d => decide (top ks - (d : Int) ∈ ks)
  walk_at "start"
  walk_at "r"
  cases hq : cq x with
  | false => exact c_Window_judgeX z w0 hx hq ⟨_, .refl _, qx hq⟩
  | true =>
    obtain ⟨c, rfl, c0, c1⟩ := cq_int hq
    have q := q c rfl c0 c1
    refine c_Window_judge z w0 c0 c1 ?_
    unfold tk at q
    rcases wrd_eq (s := s) (ks := ks) (c := c) with ⟨e1, e2, e3, e4⟩ | ⟨e1, e2⟩
    · rw [e1]
      rw [e2, if_pos rfl] at q
      unfold wnC at hM
      by_cases h0 : ks = []
      · subst h0
        rw [wnL_nil] at hM
        have hf := wnB_rise (s := s) (ks := []) (c := c) (by rw [top_nil]; omega) hk h1 s (by rw [if_pos rfl])
        walk_at "r"
        refine i_bI (shlOk_b (n := s) hb (by omega) (by omega)) ?_
        walk_at "r"
        refine i_bI (shlOk_1 (by omega)) ?_
        walk_at "r"
        simp only [Int.toNat_natCast]
        rw [rise_eq, hf]
        walk_at "r"
        refine ⟨_, .refl _, ?_⟩
        unfold wnC at q
        rw [wnL_some (by simp), top_app, top_nil, show max (-1) c = c by omega] at q
        exact q
      · rw [wnL_some h0] at hM
        walk_at "r"
        refine br (fun h => ?_) (fun h => ?_)
        · obtain ⟨r, hr, hr2, hr3⟩ : ∃ r : Nat, (if c - top ks < (s : Int) then c - top ks else (s : Int)) = (r : Int) ∧ r ≤ 1024 ∧ (r : Int) = min (s : Int) (c - top ks) := by
            split
            · exact ⟨(c - top ks).toNat, by omega, by omega, by omega⟩
            · exact ⟨s, rfl, h2, by omega⟩
          have hf := wnB_rise (s := s) (ks := ks) (c := c) h hk h1 r (by rw [if_neg h0]; exact hr3)
          walk_at "r"
          rw [hr]
          refine i_bI (shlOk_b (n := s) hb (by omega) (by omega)) ?_
          walk_at "r"
          refine i_bI (shlOk_1 (by omega)) ?_
          walk_at "r"
          simp only [Int.toNat_natCast]
          rw [rise_eq, hf]
          walk_at "r"
          refine ⟨_, .refl _, ?_⟩
          unfold wnC at q
          rw [wnL_some (by simp), top_app, show max (top ks) c = c by omega] at q
          exact q
        · have hlo : top ks - s < c := e3.resolve_left h0
          have hf := wnB_in (s := s) (ks := ks) (c := c) (by omega) hlo
          walk_at "r"
          obtain ⟨r, hr⟩ : ∃ r : Nat, top ks - c = (r : Int) := ⟨(top ks - c).toNat, by omega⟩
          rw [hr] at hf ⊢
          rw [Int.toNat_natCast] at hf
          refine i_bI (shlOk_1 (by omega)) ?_
          walk_at "r"
          rw [Int.toNat_natCast, or_in, hf]
          walk_at "r"
          refine ⟨_, .refl _, ?_⟩
          unfold wnC at q
          rw [wnL_some (by simp), top_app, show max (top ks) c = top ks by omega] at q
          exact q
    · rw [e2, if_neg (by decide), mset_self hM] at q
      walk_at "r"
      exact ⟨_, .refl _, q⟩))
theorem c_Window_take (z : Wd) {a : Addr} {s : Nat} {ks : List Int} {c : Int} {M : Mem} {Q : DK} {E : AX} (w : WnAt z M a s ks) (h0 : 0 ≤ c) (h1 : c < 9223372036854775808) (h : Q (.bl (isNew s ks c)) (mset M a (wnC z s (tk s ks c)))) : sp_Window_take z [.ref a, .int c] M Q E :=
  have e : cq (.int c) = true := decide_eq_true ⟨h0, h1⟩
  ⟨a, s, ks, _, rfl, w, trivial, (fun c2 e2 _ _ => by injection e2 with e2; subst e2; exact h), fun x => by rw [e] at x; cases x⟩
theorem c_Window_takeX (z : Wd) {a : Addr} {s : Nat} {ks : List Int} {x : D} {M : Mem} {Q : DK} {E : AX} (w : WnAt z M a s ks) (hx : Any1 x) (e : cq x = false) (h : E (z.C 10) [("word", .str "counter")] M) : sp_Window_take z [.ref a, x] M Q E :=
  ⟨a, s, ks, _, rfl, w, hx, (fun c e2 h0 h1 => by subst e2; have : cq (.int c) = true := decide_eq_true ⟨h0, h1⟩; rw [e] at this; cases this), fun _ => h⟩
theorem len_Window_greatest (z : Wd) : ∀ ds M Q E, sp_Window_greatest z ds M Q E → ds.length = ps_Window_greatest.length := by
  intro ds M Q E h; repeat (first | (obtain ⟨rfl, _⟩ := h; rfl) | (obtain ⟨_, h⟩ := h))
theorem v_Window_greatest (z : Wd) (ok : ClsOk z 24 wnA) : ∀ ds M Q E, sp_Window_greatest z ds M Q E → t_Window_greatest z (pureE M Q E) (startA N_Window_greatest ds) M := (by exact HA.Wq.get : @HA.Wq (∀ ds M Q E, sp_Window_greatest z ds M Q E → t_Window_greatest z (pureE M Q E) (startA N_Window_greatest ds) M) (by
  intro ds M Q E ⟨a, s, ks, h, hM, q⟩
  subst h
  unfold wnC at hM
  by_cases h0 : ks = []
  · subst h0
    rw [wnL_nil] at hM q
    walk_at "start"
    walk_at "r"
    exact q
  · rw [wnL_some h0] at hM q
    walk_at "start"
    walk_at "r"
    exact q))
theorem c_Window_greatest (z : Wd) {a : Addr} {s : Nat} {ks : List Int} {M : Mem} {Q : DK} {E : AX} (w : M a = some (wnC z s ks)) (h : Q (wnL ks) M) : sp_Window_greatest z [.ref a] M Q E := ⟨a, s, ks, rfl, w, h⟩
end Sh
set_option maxHeartbeats 1000000
namespace Sh
open PySem PySem.Spec L2 HA
theorem len_Window__below (z : Wd) : ∀ ds M Q E, sp_Window__below z ds M Q E → ds.length = ps_Window__below.length := by
  intro ds M Q E h; repeat (first | (obtain ⟨rfl, _⟩ := h; rfl) | (obtain ⟨_, h⟩ := h))
theorem v_Window__below (z : Wd) (ok : ClsOk z 24 wnA) : ∀ ds M Q E, sp_Window__below z ds M Q E → t_Window__below z (pureE M Q E) (startA N_Window__below ds) M := (by exact HA.Wq.get : @HA.Wq (∀ ds M Q E, sp_Window__below z ds M Q E → t_Window__below z (pureE M Q E) (startA N_Window__below ds) M) (by
  intro ds M Q E ⟨a, s, ks, b, h, w, ht, q⟩
  subst h
  obtain ⟨hM, h1, h2, hk⟩ := w
  unfold wnC at hM
  unfold blw at q
  by_cases h0 : ks = []
  · subst h0
    rw [wnL_nil] at hM
    rw [if_pos rfl] at q
    walk_at "start"
    walk_at "r"
    exact q
  · rw [wnL_some h0] at hM
    rw [if_neg h0] at q
    have h3 := hk.top0 h0
    walk_at "start"
    walk_at "r"
    have e0 : (if top ks - (s : Int) + 1 > 0 then top ks - (s : Int) + 1 else 0) = wlo s ks := by unfold wlo; split <;> omega
    rw [e0]
    have l1 : 0 ≤ wlo s ks ∧ wlo s ks ≤ top ks ∧ top ks - s < wlo s ks := by unfold wlo; omega
    intro p hp
    walk_at "r"
    refine lc_filter (l := rgI (wlo s ks) (top ks + 1 - wlo s ks).toNat) (enc := .int) (f := .int) (p := fun c => decide (c ∈ ks) == b) (by unfold rangeD rgI; rw [List.map_map]; rfl) (fun _ _ => trivial) (sz_le (by unfold rgI; rw [List.length_map, List.length_range]; unfold wlo; omega)) (fun c hc M' P N hM2 hP hN => ?_) ?_
    · have hc := mem_rgI.mp hc
      have hM' := hM2 a _ (mset_old hp hM)
      walk_at "r"
      rw [band_at (by omega) (by omega)]
      have e1 : (false ^^ decide ((if c ∈ ks then (1 : Int) else 0) = if b = true then 1 else 0)) = (decide (c ∈ ks) == b) := by
        by_cases hk2 : c ∈ ks <;> cases b <;> simp [hk2]
      rw [e1]
      refine ⟨fun h => ?_, fun h => hN h⟩
      walk_at "r"
      exact hP h
    · walk_at "r"
      exact q))
theorem c_Window__below (z : Wd) {a : Addr} {s : Nat} {ks : List Int} {b : Bool} {i : Int} {M : Mem} {Q : DK} {E : AX} (w : WnAt z M a s ks) (ht : top ks < 9223372036854775807) (ei : i = if b then 1 else 0) (h : Q (tI (blw s ks b)) M) : sp_Window__below z [.ref a, .int i] M Q E := ⟨a, s, ks, b, by rw [ei], w, ht, h⟩
theorem len_Window_held (z : Wd) : ∀ ds M Q E, sp_Window_held z ds M Q E → ds.length = ps_Window_held.length := by
  intro ds M Q E h; repeat (first | (obtain ⟨rfl, _⟩ := h; rfl) | (obtain ⟨_, h⟩ := h))
theorem v_Window_held (z : Wd) (ok : ClsOk z 24 wnA) : ∀ ds M Q E, sp_Window_held z ds M Q E → t_Window_held z (pureE M Q E) (startA N_Window_held ds) M := (by exact HA.Wq.get : @HA.Wq (∀ ds M Q E, sp_Window_held z ds M Q E → t_Window_held z (pureE M Q E) (startA N_Window_held ds) M) (by
  intro ds M Q E ⟨a, s, ks, h, w, ht, q⟩
  subst h
  have hM := w.at'
  unfold wnC at hM
  walk_at "start"
  walk_at "r"
  refine c_Window__below (b := true) z w ht rfl ?_
  walk_at "r"
  exact q))
theorem c_Window_held (z : Wd) {a : Addr} {s : Nat} {ks : List Int} {M : Mem} {Q : DK} {E : AX} (w : WnAt z M a s ks) (ht : top ks < 9223372036854775807) (h : Q (tI (blw s ks true)) M) : sp_Window_held z [.ref a] M Q E := ⟨a, s, ks, rfl, w, ht, h⟩
theorem len_Window_missing (z : Wd) : ∀ ds M Q E, sp_Window_missing z ds M Q E → ds.length = ps_Window_missing.length := by
  intro ds M Q E h; repeat (first | (obtain ⟨rfl, _⟩ := h; rfl) | (obtain ⟨_, h⟩ := h))
theorem v_Window_missing (z : Wd) (ok : ClsOk z 24 wnA) : ∀ ds M Q E, sp_Window_missing z ds M Q E → t_Window_missing z (pureE M Q E) (startA N_Window_missing ds) M := (by exact HA.Wq.get : @HA.Wq (∀ ds M Q E, sp_Window_missing z ds M Q E → t_Window_missing z (pureE M Q E) (startA N_Window_missing ds) M) (by
  intro ds M Q E ⟨a, s, ks, h, w, ht, q⟩
  subst h
  have hM := w.at'
  unfold wnC at hM
  walk_at "start"
  walk_at "r"
  refine c_Window__below (b := false) z w ht rfl ?_
  walk_at "r"
  exact q))
theorem c_Window_missing (z : Wd) {a : Addr} {s : Nat} {ks : List Int} {M : Mem} {Q : DK} {E : AX} (w : WnAt z M a s ks) (ht : top ks < 9223372036854775807) (h : Q (tI (blw s ks false)) M) : sp_Window_missing z [.ref a] M Q E := ⟨a, s, ks, rfl, w, ht, h⟩
end Sh
set_option maxHeartbeats 1000000
/-! PWL: what laws say of counters that were taken -/
namespace Sh
open PySem PySem.Spec L2 HA
theorem tk_cnt {ks : List Int} {s : Nat} {c : Int} (h : Cnt ks) (hc : 0 ≤ c ∧ c < 9223372036854775808) : Cnt (tk s ks c) := by
  unfold tk; split
  · exact h.app hc
  · exact h
theorem tk_top {ks : List Int} {s : Nat} {c m : Int} (h : top ks ≤ m) (hc : c ≤ m) : top (tk s ks c) ≤ m := by
  unfold tk; split
  · rw [top_app]; omega
  · exact h
theorem tk_nodup {ks : List Int} {s : Nat} {c : Int} (h : ks.Nodup) : (tk s ks c).Nodup := (by exact HA.Wq.get : @HA.Wq ((tk s ks c).Nodup) (by
  unfold tk
  rcases wrd_eq (s := s) (ks := ks) (c := c) with ⟨e1, e2, e3, e4⟩ | ⟨e1, e2⟩
  · rw [e2, if_pos rfl]
    exact List.nodup_append.mpr ⟨h, by simp, fun a ha b hb => by rw [List.mem_singleton.mp hb]; exact fun e => e4 (e ▸ ha)⟩
  · rw [e2, if_neg (by decide)]; exact h))
theorem tk_len {ks : List Int} {s n : Nat} {c : Int} (h : ks.length ≤ n) : (tk s ks c).length ≤ n + 1 := by
  unfold tk; split
  · rw [List.length_append]; simpa using h
  · omega
theorem wrd_lay (s : Nat) (ks : List Int) (c : Int) : (reprText (wrd s ks c)).length ≤ 1921 ∧ PyData.canLay0 (.str (wrd s ks c)) = true := (by exact HA.Wq.get : @HA.Wq ((reprText (wrd s ks c)).length ≤ 1921 ∧ PyData.canLay0 (.str (wrd s ks c)) = true) (by
  unfold wrd
  generalize wrdN s ks c = n
  match n with
  | 0 => exact ⟨(by decide +kernel : (reprText "old").length ≤ 1921), (by decide +kernel : PyData.canLay0 (.str "old") = true)⟩
  | 1 => exact ⟨(by decide +kernel : (reprText "taken").length ≤ 1921), (by decide +kernel : PyData.canLay0 (.str "taken") = true)⟩
  | n + 2 => exact ⟨(by decide +kernel : (reprText "new").length ≤ 1921), (by decide +kernel : PyData.canLay0 (.str "new") = true)⟩))
theorem i_max (z : Wd) {ks : List Int} {M : Mem} {Q : DK} (hk : Cnt ks) (h0 : ks ≠ []) (h : Q (.int (top ks)) M) : cMaxL [lI ks] M Q :=
  i_maxI (List.length_pos_iff.mpr h0) fun m h1 h2 => by rw [← top_eq hk h1 h2]; exact h
theorem new_eq {s : Nat} {ks : List Int} {c : Int} : (false ^^ decide (wrd s ks c = "new")) = isNew s ks c := by
  rcases wrd_eq (s := s) (ks := ks) (c := c) with ⟨e1, e2, _⟩ | ⟨e1, e2⟩
  · rw [e2, e1]; rfl
  · rw [e2, decide_eq_false e1]; rfl
theorem pw_wnL {M : Mem} {ks : List Int} (hk : Cnt ks) : ∃ p n, Pw M (wnL ks) p n 0 ∧ n ≤ 2000 := (by exact HA.Wq.get : @HA.Wq (∃ p n, Pw M (wnL ks) p n 0 ∧ n ≤ 2000) (by
  by_cases h0 : ks = []
  · subst h0; exact ⟨_, _, pw_non, by decide⟩
  · rw [wnL_some h0]
    have := hk.top0 h0
    exact ⟨_, _, pw_int (sm64 (by omega)), by decide⟩))
theorem small_cnt {ns : List Int} (h : ∀ c ∈ ns, 0 ≤ c ∧ c < 18446744073709551616) : SmallI ns := fun c hc => sm64 (by have := h c hc; omega)
theorem blw_len {s : Nat} {ks : List Int} {b : Bool} : (blw s ks b).length ≤ s := (by exact HA.Wq.get : @HA.Wq ((blw s ks b).length ≤ s) (by
  unfold blw
  split
  · exact Nat.zero_le _
  · refine Nat.le_trans (List.length_filter_le _ _) ?_
    unfold rgI wlo
    rw [List.length_map, List.length_range]
    omega))
theorem i_top {σ : AS} {j : Nat} {ks : List Int} {M : Mem} {Q : DK} {E : AXs} (e : σ[j]? = some (some (lI ks))) (hk : Cnt ks) (h : Q (wnL ks) M) : aIfE (aTest (aOp oNe (aVar j) (aLstF aNil))) (aCB cMaxL (aCons (aVar j) aNil)) (aC .non) σ M Q E := (by exact HA.Wq.get : @HA.Wq (aIfE (aTest (aOp oNe (aVar j) (aLstF aNil))) (aCB cMaxL (aCons (aVar j) aNil)) (aC .non) σ M Q E) (by
  walk_at "s"
  walk_at "s"
  walk_at "s"
  refine i_var e ?_
  walk_at "r"
  by_cases h0 : ks = []
  · subst h0
    refine ⟨fun x => absurd x (by simp), fun _ => ?_⟩
    walk_at "r"
    exact h
  · walk_at "r"
    refine i_var e ?_
    walk_at "r"
    refine i_maxI (List.length_pos_iff.mpr h0) fun m h1 h2 => ?_
    rw [wnL_some h0, top_eq hk h1 h2] at h
    exact h))
end Sh
namespace K46
open PySem PySem.Spec L2 HA Sh
abbrev sp_law_deal (z : Wd) : ASp := spSrc
abbrev sp_law_draw (z : Wd) : ASp := spAny
abbrev sp_law_pick (z : Wd) : ASp := spOf
def sp_law_next (z : Wd) : ASp := fun ds M Q _ => ∃ (x : D) (s : Nat) (ks : List Int), ds = [x, .int s, wnL ks, lI ks] ∧ Deal M x ∧ Cnt ks ∧ 1 ≤ s ∧ s ≤ 2048 ∧ ks.length ≤ 1000 ∧ ∀ c : Int, 0 ≤ c → c ≤ top ks + 1000010 → Q (.int c) M
def sp_law_word (z : Wd) : ASp := fun ds M Q _ => ∃ (s : Nat) (ks : List Int) (c : Int), ds = [.int s, lI ks, .int c] ∧ Cnt ks ∧ ks.length ≤ 1000 ∧ Q (.str (wrd s ks c)) M
def sp_law_held (z : Wd) : ASp := fun ds M Q _ => ∃ (s : Nat) (ks : List Int), ds = [.int s, lI ks] ∧ Cnt ks ∧ ks.Nodup ∧ ks.length ≤ 1000 ∧ 1 ≤ s ∧ s ≤ 2048 ∧ top ks < 9223372036854775807 ∧ Q (.tup [tI (blw s ks true), tI (blw s ks false)]) M
/-- held ones as they are told -/
def arI (s : Int) (g : D) (ns : List Int) : Bool := match g with
  | .int g => !ns.isEmpty && decide (ns.Pairwise (· < ·)) && decide (g - s < ns.getD 0 0) && decide (ns.getD (ns.length - 1) 0 = g)
  | _ => ns.isEmpty
/-- no held ones -/
def NoH (s : Int) (g : D) (x : D) : Prop := (∀ xs, x ≠ .tup xs) ∨ (∃ xs, x = .tup xs ∧ xs.length ≤ 100000 ∧ (∀ d ∈ xs, Any1 d) ∧ ∃ d ∈ xs, cq d = false) ∨ ∃ ns : List Int, x = tI ns ∧ Cnt ns ∧ ns.length ≤ 100000 ∧ arI s g ns = false
def sp_are_held (z : Wd) : ASp := fun ds M Q _ => ∃ (s : Int) (ks : List Int) (x : D), ds = [.int s, wnL ks, x] ∧ Any1 x ∧ ((∃ ns : List Int, x = tI ns ∧ Cnt ns ∧ ns.length ≤ 100000 ∧ Q (.bl (arI s (wnL ks) ns)) M) ∨ (NoH s (wnL ks) x ∧ Q (.bl false) M))
def sp_window_of (z : Wd) : ASp := fun ds M Q E => ∃ (x g y : D), ds = [x, g, y] ∧ Any1 x ∧ Any1 g ∧ Any1 y ∧
  ((∃ (s : Nat) (ks : List Int), x = .int s ∧ g = wnL ks ∧ y = tI (blw s ks true) ∧ 1 ≤ s ∧ s ≤ 1024 ∧ Cnt ks ∧ ∀ a, M a = none → Q (.ref a) (mset M a (wnC z s ks))) ∨
   (szQ x = false ∧ E (z.C 10) [("word", .str "size")] M) ∨
   (szQ x = true ∧ g ≠ .non ∧ cq g = false ∧ E (z.C 10) [("word", .str "counter")] M) ∨
   (∃ (s : Nat) (ks : List Int), x = .int s ∧ g = wnL ks ∧ 1 ≤ s ∧ s ≤ 1024 ∧ Cnt ks ∧ NoH s g y ∧ E (z.C 10) [("word", .str "held")] M))
def sp_law_refused (z : Wd) : ASp := fun ds M Q _ => ∃ (x : D) (s : Nat) (ks : List Int), ds = [x, .int s, wnL ks, tI (blw s ks true)] ∧ Deal M x ∧ TabM z M ∧ 1 ≤ s ∧ s ≤ 1024 ∧ Cnt ks ∧ top ks < 9223372036854775807 ∧ Q (.bl true) M
def sp_law (z : Wd) : ASp := spLawT z
end K46
/-! the readings and derivations (printed by gen4.py) -/
namespace K46
open PySem PySem.Spec L2 HA
abbrev topS (i : Nat) : Stmt := PySem.Challenge.pw_putinonce_k46_windows_told_and_made_anew.main.body.getD i (.Pass ⟨0, 0, 0, 0⟩)
abbrev st_is_integer : Stmt := topS 4
abbrev st_is_counter : Stmt := topS 8
abbrev st_need_counter : Stmt := topS 9
abbrev st_need_size : Stmt := topS 10
abbrev st_Window___init__ : Stmt := (clsB (topS 11)).getD 0 (.Pass ⟨0, 0, 0, 0⟩)
abbrev st_Window_judge : Stmt := (clsB (topS 11)).getD 1 (.Pass ⟨0, 0, 0, 0⟩)
abbrev st_Window_take : Stmt := (clsB (topS 11)).getD 2 (.Pass ⟨0, 0, 0, 0⟩)
abbrev st_Window_greatest : Stmt := (clsB (topS 11)).getD 3 (.Pass ⟨0, 0, 0, 0⟩)
abbrev st_Window__below : Stmt := (clsB (topS 11)).getD 4 (.Pass ⟨0, 0, 0, 0⟩)
abbrev st_Window_held : Stmt := (clsB (topS 11)).getD 5 (.Pass ⟨0, 0, 0, 0⟩)
abbrev st_Window_missing : Stmt := (clsB (topS 11)).getD 6 (.Pass ⟨0, 0, 0, 0⟩)
abbrev st_are_held : Stmt := topS 12
abbrev st_window_of : Stmt := topS 13
abbrev st_law_deal : Stmt := topS 15
abbrev st_law_draw : Stmt := topS 16
abbrev st_law_pick : Stmt := topS 17
abbrev st_law_next : Stmt := topS 19
abbrev st_law_word : Stmt := topS 20
abbrev st_law_held : Stmt := topS 21
abbrev st_law_heard : Stmt := topS 22
abbrev st_law_refused : Stmt := topS 23
abbrev st_law : Stmt := topS 24
/-- no built-in is hidden -/
structure Nb (mg : Str → Option Value) : Prop where
  isinstance_ : mg "isinstance" = none
  int_ : mg "int" = none
  bool_ : mg "bool" = none
  min_ : mg "min" = none
  max_ : mg "max" = none
  range_ : mg "range" = none
  tuple_ : mg "tuple" = none
  all_ : mg "all" = none
  len_ : mg "len" = none
  zip_ : mg "zip" = none
  abs_ : mg "abs" = none
  sorted_ : mg "sorted" = none
  list_ : mg "list" = none
  repr_ : mg "repr" = none
/-! def _law_deal -/
abbrev N_law_deal : List Str := ["script", "base", "cell", "cells", "blend"]
abbrev ps_law_deal : List Str := ["script", "base"]
theorem sc_law_deal : FnScope N_law_deal ps_law_deal (defScope st_law_deal) := ⟨rfl, rfl, rfl, by decide +kernel, rfl, by decide +kernel, by decide +kernel⟩
abbrev t_law_deal_1 (z : Wd) : ASt := (aAsg (aLcF (aWalk (aSlF (aVar 0) (aPart (aVar 1)) (aPart (aOp bAddF (aVar 1) (aC (.int 50)))))) (agName 2) aYes (aCB (c1I absI) (aCons (aVar 2) aNil)) [2]) (agName 3))
abbrev t_law_deal_2 (z : Wd) : ASt := (aAsg (aOp bAddF (aC (.int 27644437)) (aOp oMul (aC (.int 53)) (aVar 1))) (agName 4))
abbrev t_law_deal_3 (z : Wd) : ASt := (aAsg (aOp oMod (aCB cInt (aCons (aOp bAddF (aOp bAddF (aOp oMul (aVar 4) (aC (.int 48271))) (aOp oMod (aCB cInt (aCons (aVar 2) aNil)) (aC (.int 2147483549)))) (aC (.int 41))) aNil)) (aC (.int 2147483647))) (agName 4))
abbrev t_law_deal_4 (z : Wd) : ASt := (aFor (aWalk (aVar 3)) (agName 2) (t_law_deal_3 z))
abbrev t_law_deal_5 (z : Wd) : ASt := (aRet (aLst (aCons (aRev (aLcF (aWalk (aVar 3)) (agName 2) (aTest (aOp oGe (aVar 2) (aOp oPow (aC (.int 10)) (aC (.int 18))))) (aVar 2) [2])) (aCons (aVar 4) aNil))))
abbrev t_law_deal_6 (z : Wd) : ASt := aSeq (t_law_deal_4 z) (t_law_deal_5 z)
abbrev t_law_deal_7 (z : Wd) : ASt := aSeq (t_law_deal_2 z) (t_law_deal_6 z)
abbrev t_law_deal_8 (z : Wd) : ASt := aSeq (t_law_deal_1 z) (t_law_deal_7 z)
abbrev t_law_deal (z : Wd) : ASt := (t_law_deal_8 z)
theorem d_law_deal {P : Program} {w : World} {z : Wd} {mg : Str → Option Value} {base : Heap} {f : Addr} (nb : Nb mg)  : DefD P w z.K mg base N_law_deal "_law_deal" st_law_deal f 0 (t_law_deal z) := fun cdv A outer s H E B W hr hg tk hp => by
  have hu := hr.un
  replace hu : (BX P w z.K mg base N_law_deal "_law_deal" st_law_deal f cdv A outer s H E).A.units + 64 < cLine := by omega
  exact (qss_cons (qs_setLcF 3 (own := [("cell", 2)]) rfl sc_law_deal.nd (qi_seq (qe_sliceF (qe_var 0) (qo_some (qe_var 1)) (qo_some (qe_addF (qe_var 1) qe_int)))) (blkOk_by (N := N_law_deal) (sc := defScope st_law_deal) (by decide +kernel)) (fun _ h => h) (fun _ _ _ _ _ => (qg_name 2 sc_law_deal.nd)) (fun _ _ _ _ _ => qts_nil) (fun _ _ _ _ _ => (qe_callB cb_abs rfl nb.abs_ bB_abs (qa_cons (qe_var 2) qa_nil))))
    (qss_cons (qs_set 4 sc_law_deal.nd (qe_addF qe_int (qe_mul qe_int (qe_var 1))))
    (qss_cons (qs_for hp rfl (qi_seq (qe_var 3)) (qg_name 2 sc_law_deal.nd) (qss_one (qs_set 4 sc_law_deal.nd (qe_mod (qe_callT ct_int rfl nb.int_ bT_int (qa_cons (qe_addF (qe_addF (qe_mul (qe_var 4) qe_int) (qe_mod (qe_callT ct_int rfl nb.int_ bT_int (qa_cons (qe_var 2) qa_nil)) qe_int)) qe_int) qa_nil)) qe_int))))
    (qss_one (qs_ret (qe_lst (qa_cons (qe_rev (qe_lcF (own := [("cell", 2)]) rfl sc_law_deal.nd (qi_seq (qe_var 3)) (blkOk_by (N := N_law_deal) (sc := defScope st_law_deal) (by decide +kernel)) (fun _ h => h) (fun _ _ _ _ _ => (qg_name 2 sc_law_deal.nd)) (fun _ _ _ _ _ => (qts_one (qt_cmp c_ge (qe_var 2) (qe_pow qe_int qe_int)))) (fun _ _ _ _ _ => (qe_var 2)))) (qa_cons (qe_var 4) qa_nil))))))))
/-! def _law_draw -/
abbrev N_law_draw : List Str := ["deal", "bound", "rest"]
abbrev ps_law_draw : List Str := ["deal", "bound"]
theorem sc_law_draw : FnScope N_law_draw ps_law_draw (defScope st_law_draw) := ⟨rfl, rfl, rfl, by decide +kernel, rfl, by decide +kernel, by decide +kernel⟩
abbrev t_law_draw_1 (z : Wd) : ASt := (aDrop (aMt0 mPop (aOp bIx (aVar 0) (aC (.int 0)))))
abbrev t_law_draw_2 (z : Wd) : ASt := (aWhile (aAndT (aTest (aOp oNe (aOp bIx (aVar 0) (aC (.int 0))) (aLstF aNil))) (aTest (aOp oEq (aOp bIx (aOp bIx (aVar 0) (aC (.int 0))) (aNeg (aC (.int 1)))) (aC (.int 0))))) (t_law_draw_1 z))
abbrev t_law_draw_3 (z : Wd) : ASt := (aAsg (aMt0 mPop (aOp bIx (aVar 0) (aC (.int 0)))) (agName 2))
abbrev t_law_draw_4 (z : Wd) : ASt := (aDrop (aMt mAppend (aOp bIx (aVar 0) (aC (.int 0))) (aCons (aOp oDiv (aVar 2) (aVar 1)) aNil)))
abbrev t_law_draw_5 (z : Wd) : ASt := (aRet (aOp oMod (aCB cInt (aCons (aVar 2) aNil)) (aVar 1)))
abbrev t_law_draw_6 (z : Wd) : ASt := aSeq (t_law_draw_4 z) (t_law_draw_5 z)
abbrev t_law_draw_7 (z : Wd) : ASt := aSeq (t_law_draw_3 z) (t_law_draw_6 z)
abbrev t_law_draw_8 (z : Wd) : ASt := (aIf (aTest (aOp oNe (aOp bIx (aVar 0) (aC (.int 0))) (aLstF aNil))) (t_law_draw_7 z) aNext)
abbrev t_law_draw_9 (z : Wd) : ASt := (aAsg (aOp oMod (aCB cInt (aCons (aOp bAddF (aOp oMul (aOp bIx (aVar 0) (aC (.int 1))) (aC (.int 48271))) (aC (.int 59))) aNil)) (aC (.int 2147483647))) (agSub (aVar 0) (aC (.int 1))))
abbrev t_law_draw_10 (z : Wd) : ASt := (aRet (aOp oMod (aCB cInt (aCons (aOp oDiv (aOp bIx (aVar 0) (aC (.int 1))) (aC (.int 64))) aNil)) (aVar 1)))
abbrev t_law_draw_11 (z : Wd) : ASt := aSeq (t_law_draw_9 z) (t_law_draw_10 z)
abbrev t_law_draw_12 (z : Wd) : ASt := aSeq (t_law_draw_8 z) (t_law_draw_11 z)
abbrev t_law_draw_13 (z : Wd) : ASt := aSeq (t_law_draw_2 z) (t_law_draw_12 z)
abbrev t_law_draw (z : Wd) : ASt := (t_law_draw_13 z)
theorem d_law_draw {P : Program} {w : World} {z : Wd} {mg : Str → Option Value} {base : Heap} {f : Addr} (nb : Nb mg)  : DefD P w z.K mg base N_law_draw "_law_draw" st_law_draw f 0 (t_law_draw z) := fun cdv A outer s H E B W hr hg tk hp => by
  have hu := hr.un
  replace hu : (BX P w z.K mg base N_law_draw "_law_draw" st_law_draw f cdv A outer s H E).A.units + 64 < cLine := by omega
  exact (qss_cons (qs_while hp (qt_w (qw_and (qt_cmp (c_ne hu) (qe_ix (qe_var 0) qe_int) (qe_lstF qa_nil)) (qw_and1 (qt_cmp (c_eq hu) (qe_ix (qe_ix (qe_var 0) qe_int) (qe_neg qe_int)) qe_int)))) (qss_one (qs_expr (qe_pop (qe_ix (qe_var 0) qe_int)))))
    (qss_cons (qs_if (qt_cmp (c_ne hu) (qe_ix (qe_var 0) qe_int) (qe_lstF qa_nil)) (qss_cons (qs_set 2 sc_law_draw.nd (qe_pop (qe_ix (qe_var 0) qe_int)))
    (qss_cons (qs_expr (qe_append (qe_ix (qe_var 0) qe_int) (qa_cons (qe_fdiv (qe_var 2) (qe_var 1)) qa_nil)))
    (qss_one (qs_ret (qe_mod (qe_callT ct_int rfl nb.int_ bT_int (qa_cons (qe_var 2) qa_nil)) (qe_var 1)))))) qss_nil)
    (qss_cons (qs_asg (qe_mod (qe_callT ct_int rfl nb.int_ bT_int (qa_cons (qe_addF (qe_mul (qe_ix (qe_var 0) qe_int) qe_int) qe_int) qa_nil)) qe_int) (qg_sub (qe_var 0) qe_int))
    (qss_one (qs_ret (qe_mod (qe_callT ct_int rfl nb.int_ bT_int (qa_cons (qe_fdiv (qe_ix (qe_var 0) qe_int) qe_int) qa_nil)) (qe_var 1)))))))
/-! def _law_pick -/
abbrev N_law_pick : List Str := ["deal", "some"]
abbrev ps_law_pick : List Str := ["deal", "some"]
theorem sc_law_pick : FnScope N_law_pick ps_law_pick (defScope st_law_pick) := ⟨rfl, rfl, rfl, by decide +kernel, rfl, by decide +kernel, by decide +kernel⟩
theorem b_law_draw_2 : Bds "_law_draw" "_law_draw" st_law_draw ["deal", "bound"] 2 [] [0, 1] := fun _ _ _ _ _ _ us ws h1 h2 => match us, ws, h1, h2 with | [_, _], [], _, _ => rfl
abbrev t_law_pick_1 (z : Wd) : ASt := (aRet (aOp bIx (aVar 1) (aCall (sp_law_draw z) 2 0 [0, 1] (aCons (aVar 0) (aCons (aCB cLen (aCons (aVar 1) aNil)) aNil)) aNil)))
abbrev t_law_pick (z : Wd) : ASt := (t_law_pick_1 z)
theorem d_law_pick {P : Program} {w : World} {z : Wd} {mg : Str → Option Value} {base : Heap} {f : Addr} (nb : Nb mg) (c_law_draw : Cal P w z.K mg base 1 "_law_draw" st_law_draw ps_law_draw (sp_law_draw z)) : DefD P w z.K mg base N_law_pick "_law_pick" st_law_pick f 1 (t_law_pick z) := fun cdv A outer s H E B W hr hg tk hp => by
  have hu := hr.un
  replace hu : (BX P w z.K mg base N_law_pick "_law_pick" st_law_pick f cdv A outer s H E).A.units + 64 < cLine := by omega
  exact (qss_one (qs_ret (qe_ix (qe_var 1) (qe_call c_law_draw (hr.mono (by decide)) hg tk b_law_draw_2 (qa_cons (qe_var 0) (qa_cons (qe_callB cb_len rfl nb.len_ bB_len (qa_cons (qe_var 1) qa_nil)) qa_nil)) qk_nil))))
/-! def is_integer -/
theorem sc_is_integer : FnScope Sh.N_is_integer Sh.ps_is_integer (defScope st_is_integer) := ⟨rfl, rfl, rfl, by decide +kernel, rfl, by decide +kernel, by decide +kernel⟩
theorem d_is_integer {P : Program} {w : World} {z : Wd} {mg : Str → Option Value} {base : Heap} {f : Addr} (nb : Nb mg)  : DefD P w z.K mg base Sh.N_is_integer "is_integer" st_is_integer f 0 (Sh.t_is_integer z) := fun cdv A outer s H E B W hr hg tk hp => by
  have hu := hr.un
  replace hu : (BX P w z.K mg base Sh.N_is_integer "is_integer" st_is_integer f cdv A outer s H E).A.units + 64 < cLine := by omega
  exact (qss_one (qs_ret (qe_andV (qe_callB cb_isi rfl nb.isinstance_ bB_isinstance (qa_cons (qe_var 0) (qa_cons (qe_bltn rfl nb.int_ bT_int) qa_nil))) (qe_one (qe_notV (qe_callB cb_isi rfl nb.isinstance_ bB_isinstance (qa_cons (qe_var 0) (qa_cons (qe_bltn rfl nb.bool_ bT_bool) qa_nil))))))))
/-! def need_size -/
theorem sc_need_size : FnScope Sh.N_need_size Sh.ps_need_size (defScope st_need_size) := ⟨rfl, rfl, rfl, by decide +kernel, rfl, by decide +kernel, by decide +kernel⟩
theorem b_is_integer_1 : Bds "is_integer" "is_integer" st_is_integer ["value"] 1 [] [0] := fun _ _ _ _ _ _ us ws h1 h2 => match us, ws, h1, h2 with | [_], [], _, _ => rfl
theorem d_need_size {P : Program} {w : World} {z : Wd} {mg : Str → Option Value} {base : Heap} {f : Addr} {fE_InvalidSize : Addr} (nb : Nb mg) (c_is_integer : Cal P w z.K mg base 1 "is_integer" st_is_integer Sh.ps_is_integer (Sh.sp_is_integer z)) (g_MOST_SIZE : ∃ t, mg "MOST_SIZE" = some (.int 1024 t)) (gX_InvalidSize : mg "InvalidSize" = some (.ref (z.C 10))) (T_InvalidSize : ErrTxt P z.K mg (z.C 10) fE_InvalidSize "word") : DefD P w z.K mg base Sh.N_need_size "need_size" st_need_size f 1 (Sh.t_need_size z) := fun cdv A outer s H E B W hr hg tk hp => by
  have hu := hr.un
  replace hu : (BX P w z.K mg base Sh.N_need_size "need_size" st_need_size f cdv A outer s H E).A.units + 64 < cLine := by omega
  exact (qss_one (qs_if (qt_w (qw_or (qt_not (qt_truth (qe_call c_is_integer (hr.mono (by decide)) hg tk b_is_integer_1 (qa_cons (qe_var 0) qa_nil) qk_nil))) (qw_or1 (qt_not (qt_chain c_le c_le qe_int (qe_var 0) (qe_gint g_MOST_SIZE)))))) (qss_one (qs_raise rfl T_InvalidSize gX_InvalidSize hr (by decide) tk qe_str)) qss_nil))
/-! def Window.__init__ -/
theorem sc_Window___init__ : FnScope Sh.N_Window___init__ Sh.ps_Window___init__ (defScope st_Window___init__) := ⟨rfl, rfl, rfl, by decide +kernel, rfl, by decide +kernel, by decide +kernel⟩
theorem b_need_size_1 : Bds "need_size" "need_size" st_need_size ["value"] 1 [] [0] := fun _ _ _ _ _ _ us ws h1 h2 => match us, ws, h1, h2 with | [_], [], _, _ => rfl
theorem d_Window___init__ {P : Program} {w : World} {z : Wd} {mg : Str → Option Value} {base : Heap} {f : Addr} (nb : Nb mg) (c_need_size : Cal P w z.K mg base 2 "need_size" st_need_size Sh.ps_need_size (Sh.sp_need_size z)) : DefD P w z.K mg base Sh.N_Window___init__ "Window.__init__" st_Window___init__ f 2 (Sh.t_Window___init__ z) := fun cdv A outer s H E B W hr hg tk hp => by
  have hu := hr.un
  replace hu : (BX P w z.K mg base Sh.N_Window___init__ "Window.__init__" st_Window___init__ f cdv A outer s H E).A.units + 64 < cLine := by omega
  exact (qss_cons (qs_expr (qe_call c_need_size (hr.mono (by decide)) hg tk b_need_size_1 (qa_cons (qe_var 1) qa_nil) qk_nil))
    (qss_cons (qs_fld (qe_var 0) (qe_var 1))
    (qss_cons (qs_fld (qe_var 0) qe_non)
    (qss_one (qs_fld (qe_var 0) qe_int)))))
/-! def _law_next -/
abbrev N_law_next : List Str := ["deal", "size", "greatest", "known", "top", "form"]
abbrev ps_law_next : List Str := ["deal", "size", "greatest", "known"]
theorem sc_law_next : FnScope N_law_next ps_law_next (defScope st_law_next) := ⟨rfl, rfl, rfl, by decide +kernel, rfl, by decide +kernel, by decide +kernel⟩
theorem b_law_pick_2 : Bds "_law_pick" "_law_pick" st_law_pick ["deal", "some"] 2 [] [0, 1] := fun _ _ _ _ _ _ us ws h1 h2 => match us, ws, h1, h2 with | [_, _], [], _, _ => rfl
abbrev t_law_next_1 (z : Wd) : ASt := (aAsg (aIfE (aTest (aOp oIs (aVar 2) (aC .non))) (aNeg (aC (.int 1))) (aVar 2)) (agName 4))
abbrev t_law_next_2 (z : Wd) : ASt := (aAsg (aCall (sp_law_draw z) 2 0 [0, 1] (aCons (aVar 0) (aCons (aC (.int 12)) aNil)) aNil) (agName 5))
abbrev t_law_next_3 (z : Wd) : ASt := (aRet (aOp bAddF (aOp bAddF (aVar 4) (aC (.int 1))) (aCall (sp_law_draw z) 2 0 [0, 1] (aCons (aVar 0) (aCons (aOp bAddF (aC (.int 2)) (aCall (sp_law_draw z) 2 0 [0, 1] (aCons (aVar 0) (aCons (aC (.int 3)) aNil)) aNil)) aNil)) aNil)))
abbrev t_law_next_4 (z : Wd) : ASt := (aIf (aTest (aOp oLt (aVar 5) (aC (.int 4)))) (t_law_next_3 z) aNext)
abbrev t_law_next_5 (z : Wd) : ASt := (aRet (aCB cMax (aCons (aC (.int 0)) (aCons (aOp oSub (aVar 4) (aCall (sp_law_draw z) 2 0 [0, 1] (aCons (aVar 0) (aCons (aOp bAddF (aVar 1) (aC (.int 3))) aNil)) aNil)) aNil))))
abbrev t_law_next_6 (z : Wd) : ASt := (aIf (aAndT (aTest (aOp oLt (aVar 5) (aC (.int 7)))) (aTest (aOp oNe (aVar 3) (aLstF aNil)))) (t_law_next_5 z) aNext)
abbrev t_law_next_7 (z : Wd) : ASt := (aRet (aCall (sp_law_pick z) 2 0 [0, 1] (aCons (aVar 0) (aCons (aVar 3) aNil)) aNil))
abbrev t_law_next_8 (z : Wd) : ASt := (aIf (aAndT (aTest (aOp oEq (aVar 5) (aC (.int 7)))) (aTest (aOp oNe (aVar 3) (aLstF aNil)))) (t_law_next_7 z) aNext)
abbrev t_law_next_9 (z : Wd) : ASt := (aRet (aCB cMax (aCons (aC (.int 0)) (aCons (aOp bAddF (aOp oSub (aVar 4) (aVar 1)) (aCall (sp_law_draw z) 2 0 [0, 1] (aCons (aVar 0) (aCons (aC (.int 3)) aNil)) aNil)) aNil))))
abbrev t_law_next_10 (z : Wd) : ASt := (aIf (aTest (aOp oEq (aVar 5) (aC (.int 8)))) (t_law_next_9 z) aNext)
abbrev t_law_next_11 (z : Wd) : ASt := (aRet (aCB cMax (aCons (aC (.int 0)) (aCons (aOp bAddF (aOp oSub (aOp bAddF (aVar 4) (aVar 1)) (aC (.int 1))) (aCall (sp_law_draw z) 2 0 [0, 1] (aCons (aVar 0) (aCons (aC (.int 3)) aNil)) aNil)) aNil))))
abbrev t_law_next_12 (z : Wd) : ASt := (aIf (aTest (aOp oEq (aVar 5) (aC (.int 9)))) (t_law_next_11 z) aNext)
abbrev t_law_next_13 (z : Wd) : ASt := (aRet (aOp bAddF (aOp bAddF (aVar 4) (aC (.int 1))) (aCall (sp_law_draw z) 2 0 [0, 1] (aCons (aVar 0) (aCons (aCall (sp_law_pick z) 2 0 [0, 1] (aCons (aVar 0) (aCons (aLstF (aCons (aC (.int 4)) (aCons (aC (.int 4)) (aCons (aOp oMul (aC (.int 4)) (aVar 1)) (aCons (aOp oPow (aC (.int 10)) (aC (.int 6))) aNil))))) aNil)) aNil) aNil)) aNil)))
abbrev t_law_next_14 (z : Wd) : ASt := aSeq (t_law_next_12 z) (t_law_next_13 z)
abbrev t_law_next_15 (z : Wd) : ASt := aSeq (t_law_next_10 z) (t_law_next_14 z)
abbrev t_law_next_16 (z : Wd) : ASt := aSeq (t_law_next_8 z) (t_law_next_15 z)
abbrev t_law_next_17 (z : Wd) : ASt := aSeq (t_law_next_6 z) (t_law_next_16 z)
abbrev t_law_next_18 (z : Wd) : ASt := aSeq (t_law_next_4 z) (t_law_next_17 z)
abbrev t_law_next_19 (z : Wd) : ASt := aSeq (t_law_next_2 z) (t_law_next_18 z)
abbrev t_law_next_20 (z : Wd) : ASt := aSeq (t_law_next_1 z) (t_law_next_19 z)
abbrev t_law_next (z : Wd) : ASt := (t_law_next_20 z)
theorem d_law_next {P : Program} {w : World} {z : Wd} {mg : Str → Option Value} {base : Heap} {f : Addr} (nb : Nb mg) (c_law_draw : Cal P w z.K mg base 1 "_law_draw" st_law_draw ps_law_draw (sp_law_draw z)) (c_law_pick : Cal P w z.K mg base 2 "_law_pick" st_law_pick ps_law_pick (sp_law_pick z)) : DefD P w z.K mg base N_law_next "_law_next" st_law_next f 2 (t_law_next z) := fun cdv A outer s H E B W hr hg tk hp => by
  have hu := hr.un
  replace hu : (BX P w z.K mg base N_law_next "_law_next" st_law_next f cdv A outer s H E).A.units + 64 < cLine := by omega
  exact (qss_cons (qs_set 4 sc_law_next.nd (qe_ifExp (qt_cmp c_is (qe_var 2) qe_non) (qe_neg qe_int) (qe_var 2)))
    (qss_cons (qs_set 5 sc_law_next.nd (qe_call c_law_draw (hr.mono (by decide)) hg tk b_law_draw_2 (qa_cons (qe_var 0) (qa_cons qe_int qa_nil)) qk_nil))
    (qss_cons (qs_if (qt_cmp c_lt (qe_var 5) qe_int) (qss_one (qs_ret (qe_addF (qe_addF (qe_var 4) qe_int) (qe_call c_law_draw (hr.mono (by decide)) hg tk b_law_draw_2 (qa_cons (qe_var 0) (qa_cons (qe_addF qe_int (qe_call c_law_draw (hr.mono (by decide)) hg tk b_law_draw_2 (qa_cons (qe_var 0) (qa_cons qe_int qa_nil)) qk_nil)) qa_nil)) qk_nil)))) qss_nil)
    (qss_cons (qs_if (qt_w (qw_and (qt_cmp c_lt (qe_var 5) qe_int) (qw_and1 (qt_cmp (c_ne hu) (qe_var 3) (qe_lstF qa_nil))))) (qss_one (qs_ret (qe_callB (cb_max rfl) rfl nb.max_ bB_max (qa_cons qe_int (qa_cons (qe_sub (qe_var 4) (qe_call c_law_draw (hr.mono (by decide)) hg tk b_law_draw_2 (qa_cons (qe_var 0) (qa_cons (qe_addF (qe_var 1) qe_int) qa_nil)) qk_nil)) qa_nil))))) qss_nil)
    (qss_cons (qs_if (qt_w (qw_and (qt_cmp (c_eq hu) (qe_var 5) qe_int) (qw_and1 (qt_cmp (c_ne hu) (qe_var 3) (qe_lstF qa_nil))))) (qss_one (qs_ret (qe_call c_law_pick (hr.mono (by decide)) hg tk b_law_pick_2 (qa_cons (qe_var 0) (qa_cons (qe_var 3) qa_nil)) qk_nil))) qss_nil)
    (qss_cons (qs_if (qt_cmp (c_eq hu) (qe_var 5) qe_int) (qss_one (qs_ret (qe_callB (cb_max rfl) rfl nb.max_ bB_max (qa_cons qe_int (qa_cons (qe_addF (qe_sub (qe_var 4) (qe_var 1)) (qe_call c_law_draw (hr.mono (by decide)) hg tk b_law_draw_2 (qa_cons (qe_var 0) (qa_cons qe_int qa_nil)) qk_nil)) qa_nil))))) qss_nil)
    (qss_cons (qs_if (qt_cmp (c_eq hu) (qe_var 5) qe_int) (qss_one (qs_ret (qe_callB (cb_max rfl) rfl nb.max_ bB_max (qa_cons qe_int (qa_cons (qe_addF (qe_sub (qe_addF (qe_var 4) (qe_var 1)) qe_int) (qe_call c_law_draw (hr.mono (by decide)) hg tk b_law_draw_2 (qa_cons (qe_var 0) (qa_cons qe_int qa_nil)) qk_nil)) qa_nil))))) qss_nil)
    (qss_one (qs_ret (qe_addF (qe_addF (qe_var 4) qe_int) (qe_call c_law_draw (hr.mono (by decide)) hg tk b_law_draw_2 (qa_cons (qe_var 0) (qa_cons (qe_call c_law_pick (hr.mono (by decide)) hg tk b_law_pick_2 (qa_cons (qe_var 0) (qa_cons (qe_lstF (qa_cons qe_int (qa_cons qe_int (qa_cons (qe_mul qe_int (qe_var 1)) (qa_cons (qe_pow qe_int qe_int) qa_nil))))) qa_nil)) qk_nil) qa_nil)) qk_nil)))))))))))
/-! def _law_word -/
abbrev N_law_word : List Str := ["size", "known", "counter", "greatest"]
abbrev ps_law_word : List Str := ["size", "known", "counter"]
theorem sc_law_word : FnScope N_law_word ps_law_word (defScope st_law_word) := ⟨rfl, rfl, rfl, by decide +kernel, rfl, by decide +kernel, by decide +kernel⟩
abbrev t_law_word_1 (z : Wd) : ASt := (aAsg (aIfE (aTest (aOp oNe (aVar 1) (aLstF aNil))) (aCB cMaxL (aCons (aVar 1) aNil)) (aC .non)) (agName 3))
abbrev t_law_word_2 (z : Wd) : ASt := (aRet (aC (.str "old")))
abbrev t_law_word_3 (z : Wd) : ASt := (aIf (aAndT (aTest (aOp oIsNot (aVar 3) (aC .non))) (aTest (aOp oLe (aVar 2) (aOp oSub (aVar 3) (aVar 0))))) (t_law_word_2 z) aNext)
abbrev t_law_word_4 (z : Wd) : ASt := (aRet (aIfE (aTest (aOp (bIn false) (aVar 2) (aVar 1))) (aC (.str "taken")) (aC (.str "new"))))
abbrev t_law_word_5 (z : Wd) : ASt := aSeq (t_law_word_3 z) (t_law_word_4 z)
abbrev t_law_word_6 (z : Wd) : ASt := aSeq (t_law_word_1 z) (t_law_word_5 z)
abbrev t_law_word (z : Wd) : ASt := (t_law_word_6 z)
theorem d_law_word {P : Program} {w : World} {z : Wd} {mg : Str → Option Value} {base : Heap} {f : Addr} (nb : Nb mg)  : DefD P w z.K mg base N_law_word "_law_word" st_law_word f 0 (t_law_word z) := fun cdv A outer s H E B W hr hg tk hp => by
  have hu := hr.un
  replace hu : (BX P w z.K mg base N_law_word "_law_word" st_law_word f cdv A outer s H E).A.units + 64 < cLine := by omega
  exact (qss_cons (qs_set 3 sc_law_word.nd (qe_ifExp (qt_cmp (c_ne hu) (qe_var 1) (qe_lstF qa_nil)) (qe_callB (cb_maxL rfl) rfl nb.max_ bB_max (qa_cons (qe_var 1) qa_nil)) qe_non))
    (qss_cons (qs_if (qt_w (qw_and (qt_cmp c_isnot (qe_var 3) qe_non) (qw_and1 (qt_cmp c_le (qe_var 2) (qe_sub (qe_var 3) (qe_var 0)))))) (qss_one (qs_ret qe_str)) qss_nil)
    (qss_one (qs_ret (qe_ifExp (qt_cmp c_in (qe_var 2) (qe_var 1)) qe_str qe_str)))))
/-! def is_counter -/
theorem sc_is_counter : FnScope Sh.N_is_counter Sh.ps_is_counter (defScope st_is_counter) := ⟨rfl, rfl, rfl, by decide +kernel, rfl, by decide +kernel, by decide +kernel⟩
theorem d_is_counter {P : Program} {w : World} {z : Wd} {mg : Str → Option Value} {base : Heap} {f : Addr} (nb : Nb mg) (c_is_integer : Cal P w z.K mg base 1 "is_integer" st_is_integer Sh.ps_is_integer (Sh.sp_is_integer z)) (g_COUNTERS : ∃ t, mg "COUNTERS" = some (.int 9223372036854775808 t)) : DefD P w z.K mg base Sh.N_is_counter "is_counter" st_is_counter f 1 (Sh.t_is_counter z) := fun cdv A outer s H E B W hr hg tk hp => by
  have hu := hr.un
  replace hu : (BX P w z.K mg base Sh.N_is_counter "is_counter" st_is_counter f cdv A outer s H E).A.units + 64 < cLine := by omega
  exact (qss_one (qs_ret (qe_andV (qe_call c_is_integer (hr.mono (by decide)) hg tk b_is_integer_1 (qa_cons (qe_var 0) qa_nil) qk_nil) (qe_one (qe_chain c_le c_lt qe_int (qe_var 0) (qe_gint g_COUNTERS))))))
/-! def need_counter -/
theorem sc_need_counter : FnScope Sh.N_need_counter Sh.ps_need_counter (defScope st_need_counter) := ⟨rfl, rfl, rfl, by decide +kernel, rfl, by decide +kernel, by decide +kernel⟩
theorem b_is_counter_1 : Bds "is_counter" "is_counter" st_is_counter ["value"] 1 [] [0] := fun _ _ _ _ _ _ us ws h1 h2 => match us, ws, h1, h2 with | [_], [], _, _ => rfl
theorem d_need_counter {P : Program} {w : World} {z : Wd} {mg : Str → Option Value} {base : Heap} {f : Addr} {fE_InvalidSize : Addr} (nb : Nb mg) (c_is_counter : Cal P w z.K mg base 2 "is_counter" st_is_counter Sh.ps_is_counter (Sh.sp_is_counter z)) (gX_InvalidSize : mg "InvalidSize" = some (.ref (z.C 10))) (T_InvalidSize : ErrTxt P z.K mg (z.C 10) fE_InvalidSize "word") : DefD P w z.K mg base Sh.N_need_counter "need_counter" st_need_counter f 2 (Sh.t_need_counter z) := fun cdv A outer s H E B W hr hg tk hp => by
  have hu := hr.un
  replace hu : (BX P w z.K mg base Sh.N_need_counter "need_counter" st_need_counter f cdv A outer s H E).A.units + 64 < cLine := by omega
  exact (qss_one (qs_if (qt_not (qt_truth (qe_call c_is_counter (hr.mono (by decide)) hg tk b_is_counter_1 (qa_cons (qe_var 0) qa_nil) qk_nil))) (qss_one (qs_raise rfl T_InvalidSize gX_InvalidSize hr (by decide) tk qe_str)) qss_nil))
/-! def Window.judge -/
theorem sc_Window_judge : FnScope Sh.N_Window_judge Sh.ps_Window_judge (defScope st_Window_judge) := ⟨rfl, rfl, rfl, by decide +kernel, rfl, by decide +kernel, by decide +kernel⟩
theorem b_need_counter_1 : Bds "need_counter" "need_counter" st_need_counter ["value"] 1 [] [0] := fun _ _ _ _ _ _ us ws h1 h2 => match us, ws, h1, h2 with | [_], [], _, _ => rfl
theorem d_Window_judge {P : Program} {w : World} {z : Wd} {mg : Str → Option Value} {base : Heap} {f : Addr} (nb : Nb mg) (c_need_counter : Cal P w z.K mg base 3 "need_counter" st_need_counter Sh.ps_need_counter (Sh.sp_need_counter z)) : DefD P w z.K mg base Sh.N_Window_judge "Window.judge" st_Window_judge f 3 (Sh.t_Window_judge z) := fun cdv A outer s H E B W hr hg tk hp => by
  have hu := hr.un
  replace hu : (BX P w z.K mg base Sh.N_Window_judge "Window.judge" st_Window_judge f cdv A outer s H E).A.units + 64 < cLine := by omega
  exact (qss_cons (qs_expr (qe_call c_need_counter (hr.mono (by decide)) hg tk b_need_counter_1 (qa_cons (qe_var 1) qa_nil) qk_nil))
    (qss_cons (qs_if (qt_w (qw_or (qt_cmp c_is (qe_fld (qe_var 0)) qe_non) (qw_or1 (qt_cmp c_gt (qe_var 1) (qe_fld (qe_var 0)))))) (qss_one (qs_ret qe_str)) qss_nil)
    (qss_cons (qs_if (qt_cmp c_le (qe_var 1) (qe_sub (qe_fld (qe_var 0)) (qe_fld (qe_var 0)))) (qss_one (qs_ret qe_str)) qss_nil)
    (qss_one (qs_ret (qe_ifExp (qt_cmp (c_eq hu) (qe_and (qe_shr (qe_fld (qe_var 0)) (qe_sub (qe_fld (qe_var 0)) (qe_var 1))) qe_int) qe_int) qe_str qe_str))))))
/-! def Window.take -/
theorem sc_Window_take : FnScope Sh.N_Window_take Sh.ps_Window_take (defScope st_Window_take) := ⟨rfl, rfl, rfl, by decide +kernel, rfl, by decide +kernel, by decide +kernel⟩
theorem b_Window_judge_2 : Bds "judge" "Window.judge" st_Window_judge ["self", "counter"] 2 [] [0, 1] := fun _ _ _ _ _ _ us ws h1 h2 => match us, ws, h1, h2 with | [_, _], [], _, _ => rfl
theorem d_Window_take {P : Program} {w : World} {z : Wd} {mg : Str → Option Value} {base : Heap} {f : Addr} (nb : Nb mg) (c_Window_judge : CalM P w z.K mg base 4 (z.C 24) "judge" "Window.judge" st_Window_judge Sh.ps_Window_judge (Sh.sp_Window_judge z)) (cl_Window : Cls z.K (z.C 24)) : DefD P w z.K mg base Sh.N_Window_take "Window.take" st_Window_take f 4 (Sh.t_Window_take z) := fun cdv A outer s H E B W hr hg tk hp => by
  have hu := hr.un
  replace hu : (BX P w z.K mg base Sh.N_Window_take "Window.take" st_Window_take f cdv A outer s H E).A.units + 64 < cLine := by omega
  exact (qss_cons (qs_if (qt_cmp (c_ne hu) (qe_meth (qe_var 0) cl_Window c_Window_judge (hr.mono (by decide)) hg tk b_Window_judge_2 (qa_cons (qe_var 1) qa_nil)) qe_str) (qss_one (qs_ret qe_bl)) qss_nil)
    (qss_cons (qs_if (qt_w (qw_or (qt_cmp c_is (qe_fld (qe_var 0)) qe_non) (qw_or1 (qt_cmp c_gt (qe_var 1) (qe_fld (qe_var 0)))))) (qss_cons (qs_set 2 sc_Window_take.nd (qe_ifExp (qt_cmp c_is (qe_fld (qe_var 0)) qe_non) (qe_fld (qe_var 0)) (qe_callB (cb_min rfl) rfl nb.min_ bB_min (qa_cons (qe_fld (qe_var 0)) (qa_cons (qe_sub (qe_var 1) (qe_fld (qe_var 0))) qa_nil)))))
    (qss_cons (qs_fld (qe_var 0) (qe_or (qe_and (qe_shl (qe_fld (qe_var 0)) (qe_var 2)) (qe_sub (qe_shl qe_int (qe_fld (qe_var 0))) qe_int)) qe_int))
    (qss_one (qs_fld (qe_var 0) (qe_var 1))))) (qss_one (qs_fld (qe_var 0) (qe_or (qe_fld (qe_var 0)) (qe_shl qe_int (qe_sub (qe_fld (qe_var 0)) (qe_var 1)))))))
    (qss_one (qs_ret qe_bl))))
/-! def _law_held -/
abbrev N_law_held : List Str := ["size", "known", "greatest", "held", "counter"]
abbrev ps_law_held : List Str := ["size", "known"]
theorem sc_law_held : FnScope N_law_held ps_law_held (defScope st_law_held) := ⟨rfl, rfl, rfl, by decide +kernel, rfl, by decide +kernel, by decide +kernel⟩
abbrev t_law_held_1 (z : Wd) : ASt := (aRet (aTup (aCons (aTup aNil) (aCons (aTup aNil) aNil))))
abbrev t_law_held_2 (z : Wd) : ASt := (aIf (aTest (aOp oEq (aVar 1) (aLstF aNil))) (t_law_held_1 z) aNext)
abbrev t_law_held_3 (z : Wd) : ASt := (aAsg (aCB cMaxL (aCons (aVar 1) aNil)) (agName 2))
abbrev t_law_held_4 (z : Wd) : ASt := (aAsg (aCB cTuple (aCons (aCB cSortedF (aCons (aLcF (aWalk (aVar 1)) (agName 4) (aTest (aOp oGt (aVar 4) (aOp oSub (aVar 2) (aVar 0)))) (aVar 4) [4]) aNil)) aNil)) (agName 3))
abbrev t_law_held_5 (z : Wd) : ASt := (aRet (aTup (aCons (aVar 3) (aCons (aCB cTuple (aCons (aLcF (aRng2B (aCons (aCB cMax (aCons (aC (.int 0)) (aCons (aOp bAddF (aOp oSub (aVar 2) (aVar 0)) (aC (.int 1))) aNil))) (aCons (aVar 2) aNil))) (agName 4) (aTest (aOp (bIn true) (aVar 4) (aVar 3))) (aVar 4) [4]) aNil)) aNil))))
abbrev t_law_held_6 (z : Wd) : ASt := aSeq (t_law_held_4 z) (t_law_held_5 z)
abbrev t_law_held_7 (z : Wd) : ASt := aSeq (t_law_held_3 z) (t_law_held_6 z)
abbrev t_law_held_8 (z : Wd) : ASt := aSeq (t_law_held_2 z) (t_law_held_7 z)
abbrev t_law_held (z : Wd) : ASt := (t_law_held_8 z)
theorem d_law_held {P : Program} {w : World} {z : Wd} {mg : Str → Option Value} {base : Heap} {f : Addr} (nb : Nb mg)  : DefD P w z.K mg base N_law_held "_law_held" st_law_held f 0 (t_law_held z) := fun cdv A outer s H E B W hr hg tk hp => by
  have hu := hr.un
  replace hu : (BX P w z.K mg base N_law_held "_law_held" st_law_held f cdv A outer s H E).A.units + 64 < cLine := by omega
  exact (qss_cons (qs_if (qt_cmp (c_eq hu) (qe_var 1) (qe_lstF qa_nil)) (qss_one (qs_ret (qe_tup (qa_cons (qe_tup qa_nil) (qa_cons (qe_tup qa_nil) qa_nil))))) qss_nil)
    (qss_cons (qs_set 2 sc_law_held.nd (qe_callB (cb_maxL rfl) rfl nb.max_ bB_max (qa_cons (qe_var 1) qa_nil)))
    (qss_cons (qs_set 3 sc_law_held.nd (qe_callT ct_tuple rfl nb.tuple_ bT_tuple (qa_cons (qe_callB cb_sortedF rfl nb.sorted_ bB_sorted (qa_cons (qe_lcF (own := [("counter", 4)]) rfl sc_law_held.nd (qi_seq (qe_var 1)) (blkOk_by (N := N_law_held) (sc := defScope st_law_held) (by decide +kernel)) (fun _ h => h) (fun _ _ _ _ _ => (qg_name 4 sc_law_held.nd)) (fun _ _ _ _ _ => (qts_one (qt_cmp c_gt (qe_var 4) (qe_sub (qe_var 2) (qe_var 0))))) (fun _ _ _ _ _ => (qe_var 4))) qa_nil)) qa_nil)))
    (qss_one (qs_ret (qe_tup (qa_cons (qe_var 3) (qa_cons (qe_callT ct_tuple rfl nb.tuple_ bT_tuple (qa_cons (qe_lcF (own := [("counter", 4)]) rfl sc_law_held.nd (qi_range2B rfl nb.range_ (qa_cons (qe_callB (cb_max rfl) rfl nb.max_ bB_max (qa_cons qe_int (qa_cons (qe_addF (qe_sub (qe_var 2) (qe_var 0)) qe_int) qa_nil))) (qa_cons (qe_var 2) qa_nil))) (blkOk_by (N := N_law_held) (sc := defScope st_law_held) (by decide +kernel)) (fun _ h => h) (fun _ _ _ _ _ => (qg_name 4 sc_law_held.nd)) (fun _ _ _ _ _ => (qts_one (qt_cmp c_notin (qe_var 4) (qe_var 3)))) (fun _ _ _ _ _ => (qe_var 4))) qa_nil)) qa_nil))))))))
/-! def Window.greatest -/
theorem sc_Window_greatest : FnScope Sh.N_Window_greatest Sh.ps_Window_greatest (defScope st_Window_greatest) := ⟨rfl, rfl, rfl, by decide +kernel, rfl, by decide +kernel, by decide +kernel⟩
theorem d_Window_greatest {P : Program} {w : World} {z : Wd} {mg : Str → Option Value} {base : Heap} {f : Addr} (nb : Nb mg)  : DefD P w z.K mg base Sh.N_Window_greatest "Window.greatest" st_Window_greatest f 0 (Sh.t_Window_greatest z) := fun cdv A outer s H E B W hr hg tk hp => by
  have hu := hr.un
  replace hu : (BX P w z.K mg base Sh.N_Window_greatest "Window.greatest" st_Window_greatest f cdv A outer s H E).A.units + 64 < cLine := by omega
  exact (qss_one (qs_ret (qe_fld (qe_var 0))))
/-! def Window._below -/
theorem sc_Window__below : FnScope Sh.N_Window__below Sh.ps_Window__below (defScope st_Window__below) := ⟨rfl, rfl, rfl, by decide +kernel, rfl, by decide +kernel, by decide +kernel⟩
theorem d_Window__below {P : Program} {w : World} {z : Wd} {mg : Str → Option Value} {base : Heap} {f : Addr} (nb : Nb mg)  : DefD P w z.K mg base Sh.N_Window__below "Window._below" st_Window__below f 0 (Sh.t_Window__below z) := fun cdv A outer s H E B W hr hg tk hp => by
  have hu := hr.un
  replace hu : (BX P w z.K mg base Sh.N_Window__below "Window._below" st_Window__below f cdv A outer s H E).A.units + 64 < cLine := by omega
  exact (qss_cons (qs_if (qt_cmp c_is (qe_fld (qe_var 0)) qe_non) (qss_one (qs_ret (qe_tup qa_nil))) qss_nil)
    (qss_cons (qs_set 2 sc_Window__below.nd (qe_callB (cb_max rfl) rfl nb.max_ bB_max (qa_cons qe_int (qa_cons (qe_addF (qe_sub (qe_fld (qe_var 0)) (qe_fld (qe_var 0))) qe_int) qa_nil))))
    (qss_cons (qs_set 3 sc_Window__below.nd (qe_callT ct_range rfl nb.range_ bT_range (qa_cons (qe_var 2) (qa_cons (qe_addF (qe_fld (qe_var 0)) qe_int) qa_nil))))
    (qss_one (qs_ret (qe_callT ct_tuple rfl nb.tuple_ bT_tuple (qa_cons (qe_lcF (own := [("counter", 4)]) rfl sc_Window__below.nd (qi_rngv (qe_var 3)) (blkOk_by (N := Sh.N_Window__below) (sc := defScope st_Window__below) (by decide +kernel)) (fun _ h => h) (fun _ _ _ _ _ => (qg_name 4 sc_Window__below.nd)) (fun _ _ _ _ _ => (qts_one (qt_cmp (c_eq hu) (qe_and (qe_shr (qe_fld (qe_var 0)) (qe_sub (qe_fld (qe_var 0)) (qe_var 4))) qe_int) (qe_var 1)))) (fun _ _ _ _ _ => (qe_var 4))) qa_nil)))))))
/-! def Window.held -/
theorem sc_Window_held : FnScope Sh.N_Window_held Sh.ps_Window_held (defScope st_Window_held) := ⟨rfl, rfl, rfl, by decide +kernel, rfl, by decide +kernel, by decide +kernel⟩
theorem b_Window__below_2 : Bds "_below" "Window._below" st_Window__below ["self", "bit"] 2 [] [0, 1] := fun _ _ _ _ _ _ us ws h1 h2 => match us, ws, h1, h2 with | [_, _], [], _, _ => rfl
theorem d_Window_held {P : Program} {w : World} {z : Wd} {mg : Str → Option Value} {base : Heap} {f : Addr} (nb : Nb mg) (c_Window__below : CalM P w z.K mg base 1 (z.C 24) "_below" "Window._below" st_Window__below Sh.ps_Window__below (Sh.sp_Window__below z)) (cl_Window : Cls z.K (z.C 24)) : DefD P w z.K mg base Sh.N_Window_held "Window.held" st_Window_held f 1 (Sh.t_Window_held z) := fun cdv A outer s H E B W hr hg tk hp => by
  have hu := hr.un
  replace hu : (BX P w z.K mg base Sh.N_Window_held "Window.held" st_Window_held f cdv A outer s H E).A.units + 64 < cLine := by omega
  exact (qss_one (qs_ret (qe_meth (qe_var 0) cl_Window c_Window__below (hr.mono (by decide)) hg tk b_Window__below_2 (qa_cons qe_int qa_nil))))
/-! def Window.missing -/
theorem sc_Window_missing : FnScope Sh.N_Window_missing Sh.ps_Window_missing (defScope st_Window_missing) := ⟨rfl, rfl, rfl, by decide +kernel, rfl, by decide +kernel, by decide +kernel⟩
theorem d_Window_missing {P : Program} {w : World} {z : Wd} {mg : Str → Option Value} {base : Heap} {f : Addr} (nb : Nb mg) (c_Window__below : CalM P w z.K mg base 1 (z.C 24) "_below" "Window._below" st_Window__below Sh.ps_Window__below (Sh.sp_Window__below z)) (cl_Window : Cls z.K (z.C 24)) : DefD P w z.K mg base Sh.N_Window_missing "Window.missing" st_Window_missing f 1 (Sh.t_Window_missing z) := fun cdv A outer s H E B W hr hg tk hp => by
  have hu := hr.un
  replace hu : (BX P w z.K mg base Sh.N_Window_missing "Window.missing" st_Window_missing f cdv A outer s H E).A.units + 64 < cLine := by omega
  exact (qss_one (qs_ret (qe_meth (qe_var 0) cl_Window c_Window__below (hr.mono (by decide)) hg tk b_Window__below_2 (qa_cons qe_int qa_nil))))
/-! def _law_heard -/
abbrev N_law_heard : List Str := ["work", "error"]
abbrev ps_law_heard : List Str := ["work"]
theorem sc_law_heard : FnScope N_law_heard ps_law_heard (defScope st_law_heard) := ⟨rfl, rfl, rfl, by decide +kernel, rfl, by decide +kernel, by decide +kernel⟩
theorem b_law_heard_1 : Bds "_law_heard" "_law_heard" st_law_heard ["work"] 1 [] [0] := fun _ _ _ _ _ _ us ws h1 h2 => match us, ws, h1, h2 with | [_], [], _, _ => rfl
abbrev t_law_heard (z : Wd) (act : AE) : ASt := (aSeq ((aTryAs z.K (z.C 10) 1 ((aDrop act)) (fun a C fs => ((aRet (aExF z.K a C fs "word" (aVar 1))))))) ((aRet (aC .non))))
theorem d_law_heard {P : Program} {w : World} {z : Wd} {mg : Str → Option Value} {base : Heap} {f : Addr} (nb : Nb mg) (gX_InvalidSize : mg "InvalidSize" = some (.ref (z.C 10))) : HeardD P w z.K mg base N_law_heard "_law_heard" st_law_heard f 1 "work" (t_law_heard z) := fun cdv A outer s H E B W act hr hg tk hp hact => by
  have hu := un64 hr
  exact (qss_cons (qs_try_as rfl rfl sc_law_heard.nd rfl rfl ⟨rfl, by decide, .inl gX_InvalidSize⟩ tk (fun B W pn xe sb tk hp => (qss_one (qs_expr (hact _ _ _ _ _ _ sb tk)))) (fun a oe C dd pn B fs vs hz hf hB hfr => (qss_one (qs_ret (qe_exf hz hf hB hfr (qe_var 1))))))
    (qss_one (qs_ret qe_non)))
/-! def are_held -/
abbrev N_are_held : List Str := ["size", "greatest", "value", "counter", "one", "other"]
abbrev ps_are_held : List Str := ["size", "greatest", "value"]
theorem sc_are_held : FnScope N_are_held ps_are_held (defScope st_are_held) := ⟨rfl, rfl, rfl, by decide +kernel, rfl, by decide +kernel, by decide +kernel⟩
abbrev t_are_held_1 (z : Wd) : ASt := (aRet (aC (.bl false)))
abbrev t_are_held_2 (z : Wd) : ASt := (aIf (aOrT (aNotT (aTruth (aCB cIsi (aCons (aVar 2) (aCons (aC (.ty "tuple")) aNil))))) (aNotT (aTruth (aCB (cAllL fun bs => bs.all id) (aCons (aLcF (aWalk (aVar 2)) (agName 3) aYes (aCall (Sh.sp_is_counter z) 1 0 [0] (aCons (aVar 3) aNil) aNil) [3]) aNil))))) (t_are_held_1 z) aNext)
abbrev t_are_held_3 (z : Wd) : ASt := (aRet (aAndV (aOp oIs (aVar 1) (aC .non)) (aOp oEq (aCB cLen (aCons (aVar 2) aNil)) (aC (.int 0)))))
abbrev t_are_held_4 (z : Wd) : ASt := (aIf (aOrT (aTest (aOp oIs (aVar 1) (aC .non))) (aTest (aOp oEq (aCB cLen (aCons (aVar 2) aNil)) (aC (.int 0))))) (t_are_held_3 z) aNext)
abbrev t_are_held_5 (z : Wd) : ASt := (aRet (aC (.bl false)))
abbrev t_are_held_6 (z : Wd) : ASt := (aIf (aNotT (aTruth (aCB (cAllL fun bs => bs.all id) (aCons (aLcF (aZip (aCons (aVar 2) (aCons (aSlF (aVar 2) (aPart (aC (.int 1))) aNoPart) aNil))) (agTup 2 (agCons (agName 4) (agCons (agName 5) agNil))) aYes (aOp oLt (aVar 4) (aVar 5)) [4, 5]) aNil)))) (t_are_held_5 z) aNext)
abbrev t_are_held_7 (z : Wd) : ASt := (aRet (aAndV (aOp oGt (aOp bIx (aVar 2) (aC (.int 0))) (aOp oSub (aVar 1) (aVar 0))) (aOp oEq (aOp bIx (aVar 2) (aNeg (aC (.int 1)))) (aVar 1))))
abbrev t_are_held_8 (z : Wd) : ASt := aSeq (t_are_held_6 z) (t_are_held_7 z)
abbrev t_are_held_9 (z : Wd) : ASt := aSeq (t_are_held_4 z) (t_are_held_8 z)
abbrev t_are_held_10 (z : Wd) : ASt := aSeq (t_are_held_2 z) (t_are_held_9 z)
abbrev t_are_held (z : Wd) : ASt := (t_are_held_10 z)
theorem d_are_held {P : Program} {w : World} {z : Wd} {mg : Str → Option Value} {base : Heap} {f : Addr} (nb : Nb mg) (c_is_counter : Cal P w z.K mg base 2 "is_counter" st_is_counter Sh.ps_is_counter (Sh.sp_is_counter z)) : DefD P w z.K mg base N_are_held "are_held" st_are_held f 2 (t_are_held z) := fun cdv A outer s H E B W hr hg tk hp => by
  have hu := hr.un
  replace hu : (BX P w z.K mg base N_are_held "are_held" st_are_held f cdv A outer s H E).A.units + 64 < cLine := by omega
  exact (qss_cons (qs_if (qt_w (qw_or (qt_not (qt_truth (qe_callB cb_isi rfl nb.isinstance_ bB_isinstance (qa_cons (qe_var 2) (qa_cons (qe_bltn rfl nb.tuple_ bT_tuple) qa_nil))))) (qw_or1 (qt_not (qt_truth (qe_callB (cb_allL rfl) rfl nb.all_ bB_all (qa_cons (qe_lcF (own := [("counter", 3)]) rfl sc_are_held.nd (qi_seq (qe_var 2)) (blkOk_by (N := N_are_held) (sc := defScope st_are_held) (by decide +kernel)) (fun _ h => h) (fun _ _ _ _ _ => (qg_name 3 sc_are_held.nd)) (fun _ _ _ _ _ => qts_nil) (fun _ _ _ _ _ => (qe_call c_is_counter (hr.mono (by decide)) hg takes0 b_is_counter_1 (qa_cons (qe_var 3) qa_nil) qk_nil))) qa_nil))))))) (qss_one (qs_ret qe_bl)) qss_nil)
    (qss_cons (qs_if (qt_w (qw_or (qt_cmp c_is (qe_var 1) qe_non) (qw_or1 (qt_cmp (c_eq hu) (qe_callB cb_len rfl nb.len_ bB_len (qa_cons (qe_var 2) qa_nil)) qe_int)))) (qss_one (qs_ret (qe_andV (qe_cmp c_is (qe_var 1) qe_non) (qe_one (qe_cmp (c_eq hu) (qe_callB cb_len rfl nb.len_ bB_len (qa_cons (qe_var 2) qa_nil)) qe_int))))) qss_nil)
    (qss_cons (qs_if (qt_not (qt_truth (qe_callB (cb_allL rfl) rfl nb.all_ bB_all (qa_cons (qe_lcF (own := [("one", 4), ("other", 5)]) rfl sc_are_held.nd (qi_zip rfl nb.zip_ (qa_cons (qe_var 2) (qa_cons (qe_sliceF (qe_var 2) (qo_some qe_int) qo_none) qa_nil))) (blkOk_by (N := N_are_held) (sc := defScope st_are_held) (by decide +kernel)) (fun _ h => h) (fun _ _ _ _ _ => (qg_tup rfl (qgs_cons (qg_name 4 sc_are_held.nd) (qgs_cons (qg_name 5 sc_are_held.nd) qgs_nil)))) (fun _ _ _ _ _ => qts_nil) (fun _ _ _ _ _ => (qe_cmp c_lt (qe_var 4) (qe_var 5)))) qa_nil)))) (qss_one (qs_ret qe_bl)) qss_nil)
    (qss_one (qs_ret (qe_andV (qe_cmp c_gt (qe_ix (qe_var 2) qe_int) (qe_sub (qe_var 1) (qe_var 0))) (qe_one (qe_cmp (c_eq hu) (qe_ix (qe_var 2) (qe_neg qe_int)) (qe_var 1)))))))))
/-! def window_of -/
abbrev N_window_of : List Str := ["size", "greatest", "held", "window", "counter"]
abbrev ps_window_of : List Str := ["size", "greatest", "held"]
theorem sc_window_of : FnScope N_window_of ps_window_of (defScope st_window_of) := ⟨rfl, rfl, rfl, by decide +kernel, rfl, by decide +kernel, by decide +kernel⟩
theorem b_Window___init___2 : Bds "__init__" "Window.__init__" st_Window___init__ ["self", "size"] 2 [] [0, 1] := fun _ _ _ _ _ _ us ws h1 h2 => match us, ws, h1, h2 with | [_, _], [], _, _ => rfl
theorem b_are_held_3 : Bds "are_held" "are_held" st_are_held ["size", "greatest", "value"] 3 [] [0, 1, 2] := fun _ _ _ _ _ _ us ws h1 h2 => match us, ws, h1, h2 with | [_, _, _], [], _, _ => rfl
theorem b_Window_take_2 : Bds "take" "Window.take" st_Window_take ["self", "counter"] 2 [] [0, 1] := fun _ _ _ _ _ _ us ws h1 h2 => match us, ws, h1, h2 with | [_, _], [], _, _ => rfl
abbrev t_window_of_1 (z : Wd) : ASt := (aAsg (aMake (z.C 24) (Sh.sp_Window___init__ z) 1 0 [0, 1] (aCons (aVar 0) aNil) aNil) (agName 3))
abbrev t_window_of_2 (z : Wd) : ASt := (aDrop (aCall (Sh.sp_need_counter z) 1 0 [0] (aCons (aVar 1) aNil) aNil))
abbrev t_window_of_3 (z : Wd) : ASt := (aIf (aTest (aOp oIsNot (aVar 1) (aC .non))) (t_window_of_2 z) aNext)
abbrev t_window_of_4 (z : Wd) : ASt := (aRaise (z.C 10) "word" (aC (.str "held")))
abbrev t_window_of_5 (z : Wd) : ASt := (aIf (aNotT (aTruth (aCall (sp_are_held z) 3 0 [0, 1, 2] (aCons (aVar 0) (aCons (aVar 1) (aCons (aVar 2) aNil))) aNil))) (t_window_of_4 z) aNext)
abbrev t_window_of_6 (z : Wd) : ASt := (aDrop (aMeth (z.C 24) "take" (Sh.sp_Window_take z) 1 [0, 1] (aVar 3) (aCons (aVar 4) aNil)))
abbrev t_window_of_7 (z : Wd) : ASt := (aFor (aWalk (aVar 2)) (agName 4) (t_window_of_6 z))
abbrev t_window_of_8 (z : Wd) : ASt := (aRet (aVar 3))
abbrev t_window_of_9 (z : Wd) : ASt := aSeq (t_window_of_7 z) (t_window_of_8 z)
abbrev t_window_of_10 (z : Wd) : ASt := aSeq (t_window_of_5 z) (t_window_of_9 z)
abbrev t_window_of_11 (z : Wd) : ASt := aSeq (t_window_of_3 z) (t_window_of_10 z)
abbrev t_window_of_12 (z : Wd) : ASt := aSeq (t_window_of_1 z) (t_window_of_11 z)
abbrev t_window_of (z : Wd) : ASt := (t_window_of_12 z)
theorem d_window_of {P : Program} {w : World} {z : Wd} {mg : Str → Option Value} {base : Heap} {f : Addr} {fE_InvalidSize : Addr} (nb : Nb mg) (c_Window___init__ : CalC P w z.K mg base 3 "Window" (z.C 24) "Window.__init__" st_Window___init__ Sh.ps_Window___init__ (Sh.sp_Window___init__ z)) (c_need_counter : Cal P w z.K mg base 3 "need_counter" st_need_counter Sh.ps_need_counter (Sh.sp_need_counter z)) (c_are_held : Cal P w z.K mg base 3 "are_held" st_are_held ps_are_held (sp_are_held z)) (c_Window_take : CalM P w z.K mg base 5 (z.C 24) "take" "Window.take" st_Window_take Sh.ps_Window_take (Sh.sp_Window_take z)) (cl_Window : Cls z.K (z.C 24)) (gX_InvalidSize : mg "InvalidSize" = some (.ref (z.C 10))) (T_InvalidSize : ErrTxt P z.K mg (z.C 10) fE_InvalidSize "word") : DefD P w z.K mg base N_window_of "window_of" st_window_of f 5 (t_window_of z) := fun cdv A outer s H E B W hr hg tk hp => by
  have hu := hr.un
  replace hu : (BX P w z.K mg base N_window_of "window_of" st_window_of f cdv A outer s H E).A.units + 64 < cLine := by omega
  exact (qss_cons (qs_set 3 sc_window_of.nd (qe_make c_Window___init__ (hr.mono (by decide)) hg tk b_Window___init___2 (qa_cons (qe_var 0) qa_nil) qk_nil))
    (qss_cons (qs_if (qt_cmp c_isnot (qe_var 1) qe_non) (qss_one (qs_expr (qe_call c_need_counter (hr.mono (by decide)) hg tk b_need_counter_1 (qa_cons (qe_var 1) qa_nil) qk_nil))) qss_nil)
    (qss_cons (qs_if (qt_not (qt_truth (qe_call c_are_held (hr.mono (by decide)) hg tk b_are_held_3 (qa_cons (qe_var 0) (qa_cons (qe_var 1) (qa_cons (qe_var 2) qa_nil))) qk_nil))) (qss_one (qs_raise rfl T_InvalidSize gX_InvalidSize hr (by decide) tk qe_str)) qss_nil)
    (qss_cons (qs_for hp rfl (qi_seq (qe_var 2)) (qg_name 4 sc_window_of.nd) (qss_one (qs_expr (qe_meth (qe_var 3) cl_Window c_Window_take (hr.mono (by decide)) hg tk b_Window_take_2 (qa_cons (qe_var 4) qa_nil)))))
    (qss_one (qs_ret (qe_var 3)))))))
/-! def _law_refused -/
abbrev N_law_refused : List Str := ["deal", "size", "greatest", "held", "told", "menu", "bad", "bent", "wrong"]
abbrev ps_law_refused : List Str := ["deal", "size", "greatest", "held"]
theorem sc_law_refused : FnScope N_law_refused ps_law_refused (defScope st_law_refused) := ⟨rfl, rfl, rfl, by decide +kernel, rfl, by decide +kernel, by decide +kernel⟩
theorem b_window_of_3 : Bds "window_of" "window_of" st_window_of ["size", "greatest", "held"] 3 [] [0, 1, 2] := fun _ _ _ _ _ _ us ws h1 h2 => match us, ws, h1, h2 with | [_, _, _], [], _, _ => rfl
theorem b_window_of_0_held_greatest_size : Bds "window_of" "window_of" st_window_of ["size", "greatest", "held"] 0 ["held", "greatest", "size"] [2, 1, 0] := fun _ _ _ _ _ _ us ws h1 h2 => match us, ws, h1, h2 with | [], [_, _, _], _, _ => rfl
abbrev t_law_refused_1 (z : Wd) : ASt := (aAsg (aCall (sp_law_pick z) 2 0 [0, 1] (aCons (aVar 0) (aCons (aLstF (aCons (aC (.int 0)) (aCons (aNeg (aC (.int 1))) (aCons (aC (.int 1025)) (aCons (aC .non) (aCons (aC (.bl true)) (aCons (aC (.str "8")) (aCons (aTup (aCons (aC (.int 1)) aNil)) aNil)))))))) aNil)) aNil) (agName 6))
abbrev t_law_refused_2 (z : Wd) : ASt := (aAsg (aLst (aCons (aLam (z.T 0).1 (z.T 0).2 N_law_heard (t_law_heard z) (aMake (z.C 24) (Sh.sp_Window___init__ z) 1 0 [0, 1] (aCons (aVar 6) aNil) aNil)) aNil)) (agName 4))
abbrev t_law_refused_3 (z : Wd) : ASt := (aDrop (aMt mAppend (aVar 4) (aCons (aLam (z.T 0).1 (z.T 0).2 N_law_heard (t_law_heard z) (aCall (sp_window_of z) 3 0 [0, 1, 2] (aCons (aVar 6) (aCons (aC (.str "1")) (aCons (aC .non) aNil))) aNil)) aNil)))
abbrev t_law_refused_4 (z : Wd) : ASt := (aRet (aC (.bl false)))
abbrev t_law_refused_5 (z : Wd) : ASt := (aIf (aTest (aOp oNe (aVar 4) (aLstF (aCons (aC (.str "size")) (aCons (aC (.str "size")) aNil))))) (t_law_refused_4 z) aNext)
abbrev t_law_refused_6 (z : Wd) : ASt := (aAsg (aCall (sp_law_pick z) 2 0 [0, 1] (aCons (aVar 0) (aCons (aLstF (aCons (aNeg (aC (.int 1))) (aCons (aOp oPow (aC (.int 2)) (aC (.int 63))) (aCons (aC (.str "0")) (aCons (aC (.bl true)) (aCons (aTup (aCons (aC (.int 0)) aNil)) (aCons (aLstF (aCons (aC (.int 1)) aNil)) aNil))))))) aNil)) aNil) (agName 8))
abbrev t_law_refused_7 (z : Wd) : ASt := (aRet (aC (.bl false)))
abbrev t_law_refused_8 (z : Wd) : ASt := (aIf (aTest (aOp oNe (aLam (z.T 0).1 (z.T 0).2 N_law_heard (t_law_heard z) (aCall (sp_window_of z) 3 0 [0, 1, 2] (aCons (aVar 1) (aCons (aVar 8) (aCons (aC .non) aNil))) aNil)) (aC (.str "counter")))) (t_law_refused_7 z) aNext)
abbrev t_law_refused_9 (z : Wd) : ASt := (aAsg (aLstF (aCons (aC .non) (aCons (aCB cListF (aCons (aVar 3) aNil)) (aCons (aOp bAddF (aVar 3) (aSlF (aVar 3) (aPart (aNeg (aC (.int 1)))) aNoPart)) (aCons (aOp bAddF (aRevF (aVar 3)) (aTup (aCons (aOp oPow (aC (.int 2)) (aC (.int 63))) aNil))) (aCons (aTup (aCons (aC .non) aNil)) (aCons (aTup (aCons (aNeg (aC (.int 1))) aNil)) (aCons (aC (.int 0)) (aCons (aC (.str "")) (aCons (aOp bAddF (aVar 3) (aTup (aCons (aC (.bl true)) aNil))) (aCons (aTup (aCons (aTup aNil) (aCons (aTup aNil) aNil))) aNil))))))))))) (agName 5))
abbrev t_law_refused_10 (z : Wd) : ASt := (aAsg (aOp bAddF (aOp bAddF (aSlF (aVar 5) aNoPart (aPart (aC (.int 1)))) (aSlF (aVar 5) (aPart (aC (.int 4))) aNoPart)) (aLstF (aCons (aTup (aCons (aC (.int 0)) aNil)) aNil))) (agName 5))
abbrev t_law_refused_11 (z : Wd) : ASt := (aAsg (aOp bAddF (aVar 5) (aLstF (aCons (aTup aNil) (aCons (aIfE (aTest (aOp oGe (aVar 2) (aVar 1))) (aOp bAddF (aTup (aCons (aOp oSub (aVar 2) (aVar 1)) aNil)) (aVar 3)) (aTup aNil)) (aCons (aSlF (aVar 3) aNoPart (aPart (aNeg (aC (.int 1))))) (aCons (aOp bAddF (aVar 3) (aTup (aCons (aOp bAddF (aVar 2) (aC (.int 1))) aNil))) aNil)))))) (agName 5))
abbrev t_law_refused_12 (z : Wd) : ASt := (aIf (aTest (aOp oIs (aVar 2) (aC .non))) (t_law_refused_10 z) (t_law_refused_11 z))
abbrev t_law_refused_13 (z : Wd) : ASt := (aAsg (aCall (sp_law_pick z) 2 0 [0, 1] (aCons (aVar 0) (aCons (aVar 5) aNil)) aNil) (agName 7))
abbrev t_law_refused_14 (z : Wd) : ASt := (aRet (aOp oEq (aLam (z.T 0).1 (z.T 0).2 N_law_heard (t_law_heard z) (aCall (sp_window_of z) 0 3 [2, 1, 0] aNil (aCons (aVar 7) (aCons (aVar 2) (aCons (aVar 1) aNil))))) (aC (.str "held"))))
abbrev t_law_refused_15 (z : Wd) : ASt := aSeq (t_law_refused_13 z) (t_law_refused_14 z)
abbrev t_law_refused_16 (z : Wd) : ASt := aSeq (t_law_refused_12 z) (t_law_refused_15 z)
abbrev t_law_refused_17 (z : Wd) : ASt := aSeq (t_law_refused_9 z) (t_law_refused_16 z)
abbrev t_law_refused_18 (z : Wd) : ASt := aSeq (t_law_refused_8 z) (t_law_refused_17 z)
abbrev t_law_refused_19 (z : Wd) : ASt := aSeq (t_law_refused_6 z) (t_law_refused_18 z)
abbrev t_law_refused_20 (z : Wd) : ASt := aSeq (t_law_refused_5 z) (t_law_refused_19 z)
abbrev t_law_refused_21 (z : Wd) : ASt := aSeq (t_law_refused_3 z) (t_law_refused_20 z)
abbrev t_law_refused_22 (z : Wd) : ASt := aSeq (t_law_refused_2 z) (t_law_refused_21 z)
abbrev t_law_refused_23 (z : Wd) : ASt := aSeq (t_law_refused_1 z) (t_law_refused_22 z)
abbrev t_law_refused (z : Wd) : ASt := (t_law_refused_23 z)
theorem d_law_refused {P : Program} {w : World} {z : Wd} {mg : Str → Option Value} {base : Heap} {f cL : Addr} (nb : Nb mg) (TB : LamX.TabB base mg cL (z.T 0).1) (hq : ("_law_refused.<locals>.<lambda>" : Str) = (z.T 0).2) (c_law_pick : Cal P w z.K mg base 2 "_law_pick" st_law_pick ps_law_pick (sp_law_pick z)) (c_law_heard : CalT P w z.K mg base 1 "_law_heard" st_law_heard N_law_heard "work" (t_law_heard z)) (c_Window___init__ : CalC P w z.K mg base 3 "Window" (z.C 24) "Window.__init__" st_Window___init__ Sh.ps_Window___init__ (Sh.sp_Window___init__ z)) (c_window_of : Cal P w z.K mg base 6 "window_of" st_window_of ps_window_of (sp_window_of z)) : DefC P w z.K mg base N_law_refused "_law_refused" st_law_refused f 8 (.ref cL) (t_law_refused z) := fun A outer s H E B W hr hg tk hp => by
  have hu := un64 hr
  exact (qss_cons (qs_set 6 sc_law_refused.nd (qe_call c_law_pick (hr.mono (by decide)) hg tk b_law_pick_2 (qa_cons (qe_var 0) (qa_cons (qe_lstF (qa_cons qe_int (qa_cons (qe_neg qe_int) (qa_cons qe_int (qa_cons qe_non (qa_cons qe_bl (qa_cons qe_str (qa_cons (qe_tup (qa_cons qe_int qa_nil)) qa_nil)))))))) qa_nil)) qk_nil))
    (qss_cons (qs_set 4 sc_law_refused.nd (qe_lst (qa_cons (qe_lam (k := 4) c_law_heard (by decide) (hr.mono (by decide)) hg tk TB rfl (Eq.trans (by rfl) hq) (show LamX.LamS (defScope st_law_refused) _ from LamX.lamS_by (by decide +kernel)) (fun A outer s H E f d B hr hg tk => have hu := un64 hr; (qe_make c_Window___init__ (hr.mono (by decide)) hg tk b_Window___init___2 (qa_cons (qe_var 6) qa_nil) qk_nil))) qa_nil)))
    (qss_cons (qs_expr (qe_append (qe_var 4) (qa_cons (qe_lam (k := 6) c_law_heard (by decide) (hr.mono (by decide)) hg tk TB rfl (Eq.trans (by rfl) hq) (show LamX.LamS (defScope st_law_refused) _ from LamX.lamS_by (by decide +kernel)) (fun A outer s H E f d B hr hg tk => have hu := un64 hr; (qe_call c_window_of (hr.mono (by decide)) hg tk b_window_of_3 (qa_cons (qe_var 6) (qa_cons qe_str (qa_cons qe_non qa_nil))) qk_nil))) qa_nil)))
    (qss_cons (qs_if (qt_cmp (c_ne hu) (qe_var 4) (qe_lstF (qa_cons qe_str (qa_cons qe_str qa_nil)))) (qss_one (qs_ret qe_bl)) qss_nil)
    (qss_cons (qs_set 8 sc_law_refused.nd (qe_call c_law_pick (hr.mono (by decide)) hg tk b_law_pick_2 (qa_cons (qe_var 0) (qa_cons (qe_lstF (qa_cons (qe_neg qe_int) (qa_cons (qe_pow qe_int qe_int) (qa_cons qe_str (qa_cons qe_bl (qa_cons (qe_tup (qa_cons qe_int qa_nil)) (qa_cons (qe_lstF (qa_cons qe_int qa_nil)) qa_nil))))))) qa_nil)) qk_nil))
    (qss_cons (qs_if (qt_cmp (c_ne hu) (qe_lam (k := 6) c_law_heard (by decide) (hr.mono (by decide)) hg tk TB rfl (Eq.trans (by rfl) hq) (show LamX.LamS (defScope st_law_refused) _ from LamX.lamS_by (by decide +kernel)) (fun A outer s H E f d B hr hg tk => have hu := un64 hr; (qe_call c_window_of (hr.mono (by decide)) hg tk b_window_of_3 (qa_cons (qe_var 1) (qa_cons (qe_var 8) (qa_cons qe_non qa_nil))) qk_nil))) qe_str) (qss_one (qs_ret qe_bl)) qss_nil)
    (qss_cons (qs_set 5 sc_law_refused.nd (qe_lstF (qa_cons qe_non (qa_cons (qe_callT ct_listF rfl nb.list_ bT_list (qa_cons (qe_var 3) qa_nil)) (qa_cons (qe_addF (qe_var 3) (qe_sliceF (qe_var 3) (qo_some (qe_neg qe_int)) qo_none)) (qa_cons (qe_addF (qe_revF (qe_var 3)) (qe_tup (qa_cons (qe_pow qe_int qe_int) qa_nil))) (qa_cons (qe_tup (qa_cons qe_non qa_nil)) (qa_cons (qe_tup (qa_cons (qe_neg qe_int) qa_nil)) (qa_cons qe_int (qa_cons qe_str (qa_cons (qe_addF (qe_var 3) (qe_tup (qa_cons qe_bl qa_nil))) (qa_cons (qe_tup (qa_cons (qe_tup qa_nil) (qa_cons (qe_tup qa_nil) qa_nil))) qa_nil))))))))))))
    (qss_cons (qs_if (qt_cmp c_is (qe_var 2) qe_non) (qss_one (qs_set 5 sc_law_refused.nd (qe_addF (qe_addF (qe_sliceF (qe_var 5) qo_none (qo_some qe_int)) (qe_sliceF (qe_var 5) (qo_some qe_int) qo_none)) (qe_lstF (qa_cons (qe_tup (qa_cons qe_int qa_nil)) qa_nil))))) (qss_one (qs_set 5 sc_law_refused.nd (qe_addF (qe_var 5) (qe_lstF (qa_cons (qe_tup qa_nil) (qa_cons (qe_ifExp (qt_cmp c_ge (qe_var 2) (qe_var 1)) (qe_addF (qe_tup (qa_cons (qe_sub (qe_var 2) (qe_var 1)) qa_nil)) (qe_var 3)) (qe_tup qa_nil)) (qa_cons (qe_sliceF (qe_var 3) qo_none (qo_some (qe_neg qe_int))) (qa_cons (qe_addF (qe_var 3) (qe_tup (qa_cons (qe_addF (qe_var 2) qe_int) qa_nil))) qa_nil)))))))))
    (qss_cons (qs_set 7 sc_law_refused.nd (qe_call c_law_pick (hr.mono (by decide)) hg tk b_law_pick_2 (qa_cons (qe_var 0) (qa_cons (qe_var 5) qa_nil)) qk_nil))
    (qss_one (qs_ret (qe_cmp (c_eq hu) (qe_lam (k := 6) c_law_heard (by decide) (hr.mono (by decide)) hg tk TB rfl (Eq.trans (by rfl) hq) (show LamX.LamS (defScope st_law_refused) _ from LamX.lamS_by (by decide +kernel)) (fun A outer s H E f d B hr hg tk => have hu := un64 hr; (qe_call0 c_window_of (hr.mono (by decide)) hg tk b_window_of_0_held_greatest_size (qk_cons (qe_var 7) (qk_cons (qe_var 2) (qk_cons (qe_var 1) qk_nil)))))) qe_str))))))))))))
/-! def law -/
abbrev N_law : List Str := ["script", "deal", "size", "known", "base", "turn", "counter", "here", "due", "greatest", "held", "missing", "told", "again", "word", "window", "wrong"]
abbrev ps_law : List Str := ["script"]
theorem sc_law : FnScope N_law ps_law (defScope st_law) := ⟨rfl, rfl, rfl, by decide +kernel, rfl, by decide +kernel, by decide +kernel⟩
theorem b_law_deal_2 : Bds "_law_deal" "_law_deal" st_law_deal ["script", "base"] 2 [] [0, 1] := fun _ _ _ _ _ _ us ws h1 h2 => match us, ws, h1, h2 with | [_, _], [], _, _ => rfl
theorem b_law_next_4 : Bds "_law_next" "_law_next" st_law_next ["deal", "size", "greatest", "known"] 4 [] [0, 1, 2, 3] := fun _ _ _ _ _ _ us ws h1 h2 => match us, ws, h1, h2 with | [_, _, _, _], [], _, _ => rfl
theorem b_law_word_3 : Bds "_law_word" "_law_word" st_law_word ["size", "known", "counter"] 3 [] [0, 1, 2] := fun _ _ _ _ _ _ us ws h1 h2 => match us, ws, h1, h2 with | [_, _, _], [], _, _ => rfl
theorem b_law_held_2 : Bds "_law_held" "_law_held" st_law_held ["size", "known"] 2 [] [0, 1] := fun _ _ _ _ _ _ us ws h1 h2 => match us, ws, h1, h2 with | [_, _], [], _, _ => rfl
theorem b_Window_greatest_1 : Bds "greatest" "Window.greatest" st_Window_greatest ["self"] 1 [] [0] := fun _ _ _ _ _ _ us ws h1 h2 => match us, ws, h1, h2 with | [_], [], _, _ => rfl
theorem b_Window_held_1 : Bds "held" "Window.held" st_Window_held ["self"] 1 [] [0] := fun _ _ _ _ _ _ us ws h1 h2 => match us, ws, h1, h2 with | [_], [], _, _ => rfl
theorem b_Window_missing_1 : Bds "missing" "Window.missing" st_Window_missing ["self"] 1 [] [0] := fun _ _ _ _ _ _ us ws h1 h2 => match us, ws, h1, h2 with | [_], [], _, _ => rfl
theorem b_Window_judge_1_counter : Bds "judge" "Window.judge" st_Window_judge ["self", "counter"] 1 ["counter"] [0, 1] := fun _ _ _ _ _ _ us ws h1 h2 => match us, ws, h1, h2 with | [_], [_], _, _ => rfl
theorem b_Window_take_1_counter : Bds "take" "Window.take" st_Window_take ["self", "counter"] 1 ["counter"] [0, 1] := fun _ _ _ _ _ _ us ws h1 h2 => match us, ws, h1, h2 with | [_], [_], _, _ => rfl
theorem b_law_refused_4 : Bds "_law_refused" "_law_refused" st_law_refused ["deal", "size", "greatest", "held"] 4 [] [0, 1, 2, 3] := fun _ _ _ _ _ _ us ws h1 h2 => match us, ws, h1, h2 with | [_, _, _, _], [], _, _ => rfl
abbrev t_law_1 (z : Wd) : ASt := (aAsg (aCall (sp_law_deal z) 2 0 [0, 1] (aCons (aVar 0) (aCons (aC (.int 0)) aNil)) aNil) (agName 1))
abbrev t_law_2 (z : Wd) : ASt := (aAsg (aCall (sp_law_pick z) 2 0 [0, 1] (aCons (aVar 1) (aCons (aLstF (aCons (aC (.int 1)) (aCons (aC (.int 2)) (aCons (aC (.int 8)) (aCons (aC (.int 64)) (aCons (aC (.int 1024)) (aCons (aOp bAddF (aC (.int 1)) (aCall (sp_law_draw z) 2 0 [0, 1] (aCons (aVar 1) (aCons (aC (.int 40)) aNil)) aNil)) aNil))))))) aNil)) aNil) (agName 2))
abbrev t_law_3 (z : Wd) : ASt := (aAsg (aTup (aCons (aMake (z.C 24) (Sh.sp_Window___init__ z) 1 0 [0, 1] (aCons (aVar 2) aNil) aNil) (aCons (aLstF aNil) aNil))) (agTup 2 (agCons (agName 15) (agCons (agName 3) agNil))))
abbrev t_law_4 (z : Wd) : ASt := (aAsg (aCall (sp_law_pick z) 2 0 [0, 1] (aCons (aVar 1) (aCons (aLstF (aCons (aC (.int 0)) (aCons (aC (.int 0)) (aCons (aOp oSub (aOp oPow (aC (.int 2)) (aC (.int 63))) (aOp oPow (aC (.int 10)) (aC (.int 8)))) aNil)))) aNil)) aNil) (agName 4))
abbrev t_law_5 (z : Wd) : ASt := (aAsg (aLcF (aWalk (aVar 3)) (agName 6) aYes (aOp oSub (aVar 6) (aVar 4)) [6]) (agName 7))
abbrev t_law_6 (z : Wd) : ASt := (aAsg (aOp bAddF (aVar 4) (aCall (sp_law_next z) 4 0 [0, 1, 2, 3] (aCons (aVar 1) (aCons (aCB cMin (aCons (aVar 2) (aCons (aC (.int 40)) aNil))) (aCons (aIfE (aTest (aOp oNe (aVar 7) (aLstF aNil))) (aCB cMaxL (aCons (aVar 7) aNil)) (aC .non)) (aCons (aVar 7) aNil)))) aNil)) (agName 6))
abbrev t_law_7 (z : Wd) : ASt := (aAsg (aOp oEq (aCall (sp_law_word z) 3 0 [0, 1, 2] (aCons (aVar 2) (aCons (aVar 3) (aCons (aVar 6) aNil))) aNil) (aC (.str "new"))) (agName 8))
abbrev t_law_8 (z : Wd) : ASt := (aRet (aC (.bl false)))
abbrev t_law_9 (z : Wd) : ASt := (aIf (aTest (aOp oNe (aCB cRepr (aCons (aMeth (z.C 24) "take" (Sh.sp_Window_take z) 1 [0, 1] (aVar 15) (aCons (aVar 6) aNil)) aNil)) (aCB cRepr (aCons (aVar 8) aNil)))) (t_law_8 z) aNext)
abbrev t_law_10 (z : Wd) : ASt := (aAsg (aIfE (aTruth (aVar 8)) (aOp bAddF (aVar 3) (aLstF (aCons (aVar 6) aNil))) (aVar 3)) (agName 3))
abbrev t_law_11 (z : Wd) : ASt := aSeq (t_law_9 z) (t_law_10 z)
abbrev t_law_12 (z : Wd) : ASt := aSeq (t_law_7 z) (t_law_11 z)
abbrev t_law_13 (z : Wd) : ASt := aSeq (t_law_6 z) (t_law_12 z)
abbrev t_law_14 (z : Wd) : ASt := aSeq (t_law_5 z) (t_law_13 z)
abbrev t_law_15 (z : Wd) : ASt := (aFor (aRng1 (aCons (aCall (sp_law_draw z) 2 0 [0, 1] (aCons (aVar 1) (aCons (aC (.int 25)) aNil)) aNil) aNil)) (agName 5) (t_law_14 z))
abbrev t_law_16 (z : Wd) : ASt := (aAsg (aTup (aCons (aIfE (aTest (aOp oNe (aVar 3) (aLstF aNil))) (aCB cMaxL (aCons (aVar 3) aNil)) (aC .non)) (aCons (aCall (sp_law_held z) 2 0 [0, 1] (aCons (aVar 2) (aCons (aVar 3) aNil)) aNil) aNil))) (agTup 2 (agCons (agName 9) (agCons (agTup 2 (agCons (agName 10) (agCons (agName 11) agNil))) agNil))))
abbrev t_law_17 (z : Wd) : ASt := (aRet (aC (.bl false)))
abbrev t_law_18 (z : Wd) : ASt := (aIf (aOrT (aTest (aOp oNe (aCB cRepr (aCons (aLstF (aCons (aMeth (z.C 24) "greatest" (Sh.sp_Window_greatest z) 0 [0] (aVar 15) aNil) (aCons (aMeth (z.C 24) "held" (Sh.sp_Window_held z) 0 [0] (aVar 15) aNil) aNil))) aNil)) (aCB cRepr (aCons (aLstF (aCons (aVar 9) (aCons (aVar 10) aNil))) aNil)))) (aAndT (aTest (aOp oLt (aVar 2) (aC (.int 100)))) (aTest (aOp oNe (aCB cRepr (aCons (aMeth (z.C 24) "missing" (Sh.sp_Window_missing z) 0 [0] (aVar 15) aNil) aNil)) (aCB cRepr (aCons (aVar 11) aNil)))))) (t_law_17 z) aNext)
abbrev t_law_19 (z : Wd) : ASt := (aAsg (aCall (sp_law_pick z) 2 0 [0, 1] (aCons (aVar 1) (aCons (aLstF (aCons (aNeg (aC (.int 1))) (aCons (aC .non) (aCons (aC (.bl true)) (aCons (aC (.str "1")) (aCons (aOp oPow (aC (.int 2)) (aC (.int 63))) (aCons (aTup (aCons (aC (.int 1)) aNil)) aNil))))))) aNil)) aNil) (agName 16))
abbrev t_law_20 (z : Wd) : ASt := (aAsg (aLst (aCons (aLam (z.T 1).1 (z.T 1).2 N_law_heard (t_law_heard z) (aMeth (z.C 24) "take" (Sh.sp_Window_take z) 1 [0, 1] (aVar 15) (aCons (aVar 16) aNil))) aNil)) (agName 12))
abbrev t_law_21 (z : Wd) : ASt := (aDrop (aMt mAppend (aVar 12) (aCons (aLam (z.T 1).1 (z.T 1).2 N_law_heard (t_law_heard z) (aMethK (z.C 24) "judge" (Sh.sp_Window_judge z) 1 [0, 1] (aVar 15) (aCons (aVar 16) aNil))) aNil)))
abbrev t_law_22 (z : Wd) : ASt := (aRet (aC (.bl false)))
abbrev t_law_23 (z : Wd) : ASt := (aIf (aOrT (aTest (aOp oNe (aVar 12) (aLstF (aCons (aC (.str "counter")) (aCons (aC (.str "counter")) aNil))))) (aTest (aOp oNe (aCB cRepr (aCons (aLstF (aCons (aMeth (z.C 24) "greatest" (Sh.sp_Window_greatest z) 0 [0] (aVar 15) aNil) (aCons (aMeth (z.C 24) "held" (Sh.sp_Window_held z) 0 [0] (aVar 15) aNil) (aCons (aFld z.K (aVar 15) "size") aNil)))) aNil)) (aCB cRepr (aCons (aLstF (aCons (aVar 9) (aCons (aVar 10) (aCons (aVar 2) aNil)))) aNil))))) (t_law_22 z) aNext)
abbrev t_law_24 (z : Wd) : ASt := (aAsg (aCall (sp_window_of z) 3 0 [0, 1, 2] (aCons (aVar 2) (aCons (aVar 9) (aCons (aVar 10) aNil))) aNil) (agName 13))
abbrev t_law_25 (z : Wd) : ASt := (aAsg (aLcF (aWalk (aVar 3)) (agName 6) aYes (aOp oSub (aVar 6) (aVar 4)) [6]) (agName 7))
abbrev t_law_26 (z : Wd) : ASt := (aAsg (aOp bAddF (aVar 4) (aCall (sp_law_next z) 4 0 [0, 1, 2, 3] (aCons (aVar 1) (aCons (aCB cMin (aCons (aVar 2) (aCons (aC (.int 40)) aNil))) (aCons (aIfE (aTest (aOp oNe (aVar 7) (aLstF aNil))) (aCB cMaxL (aCons (aVar 7) aNil)) (aC .non)) (aCons (aVar 7) aNil)))) aNil)) (agName 6))
abbrev t_law_27 (z : Wd) : ASt := (aAsg (aCall (sp_law_word z) 3 0 [0, 1, 2] (aCons (aVar 2) (aCons (aVar 3) (aCons (aVar 6) aNil))) aNil) (agName 14))
abbrev t_law_28 (z : Wd) : ASt := (aRet (aC (.bl false)))
abbrev t_law_29 (z : Wd) : ASt := (aIf (aTest (aOp oNe (aCB cRepr (aCons (aLstF (aCons (aMeth (z.C 24) "judge" (Sh.sp_Window_judge z) 1 [0, 1] (aVar 15) (aCons (aVar 6) aNil)) (aCons (aMeth (z.C 24) "judge" (Sh.sp_Window_judge z) 1 [0, 1] (aVar 13) (aCons (aVar 6) aNil)) aNil))) aNil)) (aCB cRepr (aCons (aLstF (aCons (aVar 14) (aCons (aVar 14) aNil))) aNil)))) (t_law_28 z) aNext)
abbrev t_law_30 (z : Wd) : ASt := (aRet (aC (.bl false)))
abbrev t_law_31 (z : Wd) : ASt := (aIf (aTest (aOp oNe (aCB cRepr (aCons (aLstF (aCons (aMethK (z.C 24) "take" (Sh.sp_Window_take z) 1 [0, 1] (aVar 15) (aCons (aVar 6) aNil)) (aCons (aMeth (z.C 24) "take" (Sh.sp_Window_take z) 1 [0, 1] (aVar 13) (aCons (aVar 6) aNil)) aNil))) aNil)) (aCB cRepr (aCons (aLstF (aCons (aOp oEq (aVar 14) (aC (.str "new"))) (aCons (aOp oEq (aVar 14) (aC (.str "new"))) aNil))) aNil)))) (t_law_30 z) aNext)
abbrev t_law_32 (z : Wd) : ASt := (aAsg (aIfE (aTest (aOp oEq (aVar 14) (aC (.str "new")))) (aOp bAddF (aVar 3) (aLstF (aCons (aVar 6) aNil))) (aVar 3)) (agName 3))
abbrev t_law_33 (z : Wd) : ASt := aSeq (t_law_31 z) (t_law_32 z)
abbrev t_law_34 (z : Wd) : ASt := aSeq (t_law_29 z) (t_law_33 z)
abbrev t_law_35 (z : Wd) : ASt := aSeq (t_law_27 z) (t_law_34 z)
abbrev t_law_36 (z : Wd) : ASt := aSeq (t_law_26 z) (t_law_35 z)
abbrev t_law_37 (z : Wd) : ASt := aSeq (t_law_25 z) (t_law_36 z)
abbrev t_law_38 (z : Wd) : ASt := (aFor (aRng1 (aCons (aC (.int 6)) aNil)) (agName 5) (t_law_37 z))
abbrev t_law_39 (z : Wd) : ASt := (aRet (aC (.bl false)))
abbrev t_law_40 (z : Wd) : ASt := (aIf (aTest (aOp oNe (aCB cRepr (aCons (aLstF (aCons (aMeth (z.C 24) "held" (Sh.sp_Window_held z) 0 [0] (aVar 13) aNil) (aCons (aMeth (z.C 24) "greatest" (Sh.sp_Window_greatest z) 0 [0] (aVar 13) aNil) aNil))) aNil)) (aCB cRepr (aCons (aLstF (aCons (aMeth (z.C 24) "held" (Sh.sp_Window_held z) 0 [0] (aVar 15) aNil) (aCons (aMeth (z.C 24) "greatest" (Sh.sp_Window_greatest z) 0 [0] (aVar 15) aNil) aNil))) aNil)))) (t_law_39 z) aNext)
abbrev t_law_41 (z : Wd) : ASt := (aRet (aCall (sp_law_refused z) 4 0 [0, 1, 2, 3] (aCons (aVar 1) (aCons (aVar 2) (aCons (aVar 9) (aCons (aVar 10) aNil)))) aNil))
abbrev t_law_42 (z : Wd) : ASt := aSeq (t_law_40 z) (t_law_41 z)
abbrev t_law_43 (z : Wd) : ASt := aSeq (t_law_38 z) (t_law_42 z)
abbrev t_law_44 (z : Wd) : ASt := aSeq (t_law_24 z) (t_law_43 z)
abbrev t_law_45 (z : Wd) : ASt := aSeq (t_law_23 z) (t_law_44 z)
abbrev t_law_46 (z : Wd) : ASt := aSeq (t_law_21 z) (t_law_45 z)
abbrev t_law_47 (z : Wd) : ASt := aSeq (t_law_20 z) (t_law_46 z)
abbrev t_law_48 (z : Wd) : ASt := aSeq (t_law_19 z) (t_law_47 z)
abbrev t_law_49 (z : Wd) : ASt := aSeq (t_law_18 z) (t_law_48 z)
abbrev t_law_50 (z : Wd) : ASt := aSeq (t_law_16 z) (t_law_49 z)
abbrev t_law_51 (z : Wd) : ASt := aSeq (t_law_15 z) (t_law_50 z)
abbrev t_law_52 (z : Wd) : ASt := aSeq (t_law_4 z) (t_law_51 z)
abbrev t_law_53 (z : Wd) : ASt := aSeq (t_law_3 z) (t_law_52 z)
abbrev t_law_54 (z : Wd) : ASt := aSeq (t_law_2 z) (t_law_53 z)
abbrev t_law_55 (z : Wd) : ASt := aSeq (t_law_1 z) (t_law_54 z)
abbrev t_law (z : Wd) : ASt := (t_law_55 z)
theorem d_law {P : Program} {w : World} {z : Wd} {mg : Str → Option Value} {base : Heap} {f cL : Addr} (nb : Nb mg) (TB : LamX.TabB base mg cL (z.T 1).1) (hq : ("law.<locals>.<lambda>" : Str) = (z.T 1).2) (c_law_deal : Cal P w z.K mg base 1 "_law_deal" st_law_deal ps_law_deal (sp_law_deal z)) (c_law_pick : Cal P w z.K mg base 2 "_law_pick" st_law_pick ps_law_pick (sp_law_pick z)) (c_law_draw : Cal P w z.K mg base 1 "_law_draw" st_law_draw ps_law_draw (sp_law_draw z)) (c_Window___init__ : CalC P w z.K mg base 3 "Window" (z.C 24) "Window.__init__" st_Window___init__ Sh.ps_Window___init__ (Sh.sp_Window___init__ z)) (c_law_next : Cal P w z.K mg base 3 "_law_next" st_law_next ps_law_next (sp_law_next z)) (c_law_word : Cal P w z.K mg base 1 "_law_word" st_law_word ps_law_word (sp_law_word z)) (c_Window_take : CalM P w z.K mg base 5 (z.C 24) "take" "Window.take" st_Window_take Sh.ps_Window_take (Sh.sp_Window_take z)) (c_law_held : Cal P w z.K mg base 1 "_law_held" st_law_held ps_law_held (sp_law_held z)) (c_Window_greatest : CalM P w z.K mg base 1 (z.C 24) "greatest" "Window.greatest" st_Window_greatest Sh.ps_Window_greatest (Sh.sp_Window_greatest z)) (c_Window_held : CalM P w z.K mg base 2 (z.C 24) "held" "Window.held" st_Window_held Sh.ps_Window_held (Sh.sp_Window_held z)) (c_Window_missing : CalM P w z.K mg base 2 (z.C 24) "missing" "Window.missing" st_Window_missing Sh.ps_Window_missing (Sh.sp_Window_missing z)) (c_law_heard : CalT P w z.K mg base 1 "_law_heard" st_law_heard N_law_heard "work" (t_law_heard z)) (c_Window_judge : CalM P w z.K mg base 4 (z.C 24) "judge" "Window.judge" st_Window_judge Sh.ps_Window_judge (Sh.sp_Window_judge z)) (c_window_of : Cal P w z.K mg base 6 "window_of" st_window_of ps_window_of (sp_window_of z)) (c_law_refused : Cal P w z.K mg base 9 "_law_refused" st_law_refused ps_law_refused (sp_law_refused z)) (cl_Window : Cls z.K (z.C 24)) : DefC P w z.K mg base N_law "law" st_law f 9 (.ref cL) (t_law z) := fun A outer s H E B W hr hg tk hp => by
  have hu := un64 hr
  exact (qss_cons (qs_set 1 sc_law.nd (qe_call c_law_deal (hr.mono (by decide)) hg tk b_law_deal_2 (qa_cons (qe_var 0) (qa_cons qe_int qa_nil)) qk_nil))
    (qss_cons (qs_set 2 sc_law.nd (qe_call c_law_pick (hr.mono (by decide)) hg tk b_law_pick_2 (qa_cons (qe_var 1) (qa_cons (qe_lstF (qa_cons qe_int (qa_cons qe_int (qa_cons qe_int (qa_cons qe_int (qa_cons qe_int (qa_cons (qe_addF qe_int (qe_call c_law_draw (hr.mono (by decide)) hg tk b_law_draw_2 (qa_cons (qe_var 1) (qa_cons qe_int qa_nil)) qk_nil)) qa_nil))))))) qa_nil)) qk_nil))
    (qss_cons (qs_asg (qe_tup (qa_cons (qe_make c_Window___init__ (hr.mono (by decide)) hg tk b_Window___init___2 (qa_cons (qe_var 2) qa_nil) qk_nil) (qa_cons (qe_lstF qa_nil) qa_nil))) (qg_tup rfl (qgs_cons (qg_name 15 sc_law.nd) (qgs_cons (qg_name 3 sc_law.nd) qgs_nil))))
    (qss_cons (qs_set 4 sc_law.nd (qe_call c_law_pick (hr.mono (by decide)) hg tk b_law_pick_2 (qa_cons (qe_var 1) (qa_cons (qe_lstF (qa_cons qe_int (qa_cons qe_int (qa_cons (qe_sub (qe_pow qe_int qe_int) (qe_pow qe_int qe_int)) qa_nil)))) qa_nil)) qk_nil))
    (qss_cons (qs_for hp rfl (qi_range1 rfl nb.range_ (qa_cons (qe_call c_law_draw (hr.mono (by decide)) hg tk b_law_draw_2 (qa_cons (qe_var 1) (qa_cons qe_int qa_nil)) qk_nil) qa_nil)) (qg_name 5 sc_law.nd) (qss_cons (qs_setLcF 7 (own := [("counter", 6)]) rfl sc_law.nd (qi_seq (qe_var 3)) (blkOk_by (N := N_law) (sc := defScope st_law) (by decide +kernel)) (fun _ h => h) (fun _ _ _ _ _ => (qg_name 6 sc_law.nd)) (fun _ _ _ _ _ => qts_nil) (fun _ _ _ _ _ => (qe_sub (qe_var 6) (qe_var 4))))
    (qss_cons (qs_set 6 sc_law.nd (qe_addF (qe_var 4) (qe_call c_law_next (hr.mono (by decide)) hg tk b_law_next_4 (qa_cons (qe_var 1) (qa_cons (qe_callB (cb_min rfl) rfl nb.min_ bB_min (qa_cons (qe_var 2) (qa_cons qe_int qa_nil))) (qa_cons (qe_ifExp (qt_cmp (c_ne hu) (qe_var 7) (qe_lstF qa_nil)) (qe_callB (cb_maxL rfl) rfl nb.max_ bB_max (qa_cons (qe_var 7) qa_nil)) qe_non) (qa_cons (qe_var 7) qa_nil)))) qk_nil)))
    (qss_cons (qs_set 8 sc_law.nd (qe_cmp (c_eq hu) (qe_call c_law_word (hr.mono (by decide)) hg tk b_law_word_3 (qa_cons (qe_var 2) (qa_cons (qe_var 3) (qa_cons (qe_var 6) qa_nil))) qk_nil) qe_str))
    (qss_cons (qs_if (qt_cmp (c_ne hu) (qe_callB (cb_repr hu hg) rfl nb.repr_ bB_repr (qa_cons (qe_meth (qe_var 15) cl_Window c_Window_take (hr.mono (by decide)) hg tk b_Window_take_2 (qa_cons (qe_var 6) qa_nil)) qa_nil)) (qe_callB (cb_repr hu hg) rfl nb.repr_ bB_repr (qa_cons (qe_var 8) qa_nil))) (qss_one (qs_ret qe_bl)) qss_nil)
    (qss_one (qs_set 3 sc_law.nd (qe_ifExp (qt_truth (qe_var 8)) (qe_addF (qe_var 3) (qe_lstF (qa_cons (qe_var 6) qa_nil))) (qe_var 3)))))))))
    (qss_cons (qs_asg (qe_tup (qa_cons (qe_ifExp (qt_cmp (c_ne hu) (qe_var 3) (qe_lstF qa_nil)) (qe_callB (cb_maxL rfl) rfl nb.max_ bB_max (qa_cons (qe_var 3) qa_nil)) qe_non) (qa_cons (qe_call c_law_held (hr.mono (by decide)) hg tk b_law_held_2 (qa_cons (qe_var 2) (qa_cons (qe_var 3) qa_nil)) qk_nil) qa_nil))) (qg_tup rfl (qgs_cons (qg_name 9 sc_law.nd) (qgs_cons (qg_tup rfl (qgs_cons (qg_name 10 sc_law.nd) (qgs_cons (qg_name 11 sc_law.nd) qgs_nil))) qgs_nil))))
    (qss_cons (qs_if (qt_w (qw_or (qt_cmp (c_ne hu) (qe_callB (cb_repr hu hg) rfl nb.repr_ bB_repr (qa_cons (qe_lstF (qa_cons (qe_meth0 (qe_var 15) cl_Window c_Window_greatest (hr.mono (by decide)) hg tk b_Window_greatest_1) (qa_cons (qe_meth0 (qe_var 15) cl_Window c_Window_held (hr.mono (by decide)) hg tk b_Window_held_1) qa_nil))) qa_nil)) (qe_callB (cb_repr hu hg) rfl nb.repr_ bB_repr (qa_cons (qe_lstF (qa_cons (qe_var 9) (qa_cons (qe_var 10) qa_nil))) qa_nil))) (qw_or1 (qt_w (qw_and (qt_cmp c_lt (qe_var 2) qe_int) (qw_and1 (qt_cmp (c_ne hu) (qe_callB (cb_repr hu hg) rfl nb.repr_ bB_repr (qa_cons (qe_meth0 (qe_var 15) cl_Window c_Window_missing (hr.mono (by decide)) hg tk b_Window_missing_1) qa_nil)) (qe_callB (cb_repr hu hg) rfl nb.repr_ bB_repr (qa_cons (qe_var 11) qa_nil))))))))) (qss_one (qs_ret qe_bl)) qss_nil)
    (qss_cons (qs_set 16 sc_law.nd (qe_call c_law_pick (hr.mono (by decide)) hg tk b_law_pick_2 (qa_cons (qe_var 1) (qa_cons (qe_lstF (qa_cons (qe_neg qe_int) (qa_cons qe_non (qa_cons qe_bl (qa_cons qe_str (qa_cons (qe_pow qe_int qe_int) (qa_cons (qe_tup (qa_cons qe_int qa_nil)) qa_nil))))))) qa_nil)) qk_nil))
    (qss_cons (qs_set 12 sc_law.nd (qe_lst (qa_cons (qe_lam (k := 5) c_law_heard (by decide) (hr.mono (by decide)) hg tk TB rfl (Eq.trans (by rfl) hq) (show LamX.LamS (defScope st_law) _ from LamX.lamS_by (by decide +kernel)) (fun A outer s H E f d B hr hg tk => have hu := un64 hr; (qe_meth (qe_var 15) cl_Window c_Window_take (hr.mono (by decide)) hg tk b_Window_take_2 (qa_cons (qe_var 16) qa_nil)))) qa_nil)))
    (qss_cons (qs_expr (qe_append (qe_var 12) (qa_cons (qe_lam (k := 4) c_law_heard (by decide) (hr.mono (by decide)) hg tk TB rfl (Eq.trans (by rfl) hq) (show LamX.LamS (defScope st_law) _ from LamX.lamS_by (by decide +kernel)) (fun A outer s H E f d B hr hg tk => have hu := un64 hr; (qe_methK (qe_var 15) cl_Window c_Window_judge (hr.mono (by decide)) hg tk b_Window_judge_1_counter (qk_cons (qe_var 16) qk_nil)))) qa_nil)))
    (qss_cons (qs_if (qt_w (qw_or (qt_cmp (c_ne hu) (qe_var 12) (qe_lstF (qa_cons qe_str (qa_cons qe_str qa_nil)))) (qw_or1 (qt_cmp (c_ne hu) (qe_callB (cb_repr hu hg) rfl nb.repr_ bB_repr (qa_cons (qe_lstF (qa_cons (qe_meth0 (qe_var 15) cl_Window c_Window_greatest (hr.mono (by decide)) hg tk b_Window_greatest_1) (qa_cons (qe_meth0 (qe_var 15) cl_Window c_Window_held (hr.mono (by decide)) hg tk b_Window_held_1) (qa_cons (qe_fld (qe_var 15)) qa_nil)))) qa_nil)) (qe_callB (cb_repr hu hg) rfl nb.repr_ bB_repr (qa_cons (qe_lstF (qa_cons (qe_var 9) (qa_cons (qe_var 10) (qa_cons (qe_var 2) qa_nil)))) qa_nil)))))) (qss_one (qs_ret qe_bl)) qss_nil)
    (qss_cons (qs_set 13 sc_law.nd (qe_call c_window_of (hr.mono (by decide)) hg tk b_window_of_3 (qa_cons (qe_var 2) (qa_cons (qe_var 9) (qa_cons (qe_var 10) qa_nil))) qk_nil))
    (qss_cons (qs_for hp rfl (qi_range1 rfl nb.range_ (qa_cons qe_int qa_nil)) (qg_name 5 sc_law.nd) (qss_cons (qs_setLcF 7 (own := [("counter", 6)]) rfl sc_law.nd (qi_seq (qe_var 3)) (blkOk_by (N := N_law) (sc := defScope st_law) (by decide +kernel)) (fun _ h => h) (fun _ _ _ _ _ => (qg_name 6 sc_law.nd)) (fun _ _ _ _ _ => qts_nil) (fun _ _ _ _ _ => (qe_sub (qe_var 6) (qe_var 4))))
    (qss_cons (qs_set 6 sc_law.nd (qe_addF (qe_var 4) (qe_call c_law_next (hr.mono (by decide)) hg tk b_law_next_4 (qa_cons (qe_var 1) (qa_cons (qe_callB (cb_min rfl) rfl nb.min_ bB_min (qa_cons (qe_var 2) (qa_cons qe_int qa_nil))) (qa_cons (qe_ifExp (qt_cmp (c_ne hu) (qe_var 7) (qe_lstF qa_nil)) (qe_callB (cb_maxL rfl) rfl nb.max_ bB_max (qa_cons (qe_var 7) qa_nil)) qe_non) (qa_cons (qe_var 7) qa_nil)))) qk_nil)))
    (qss_cons (qs_set 14 sc_law.nd (qe_call c_law_word (hr.mono (by decide)) hg tk b_law_word_3 (qa_cons (qe_var 2) (qa_cons (qe_var 3) (qa_cons (qe_var 6) qa_nil))) qk_nil))
    (qss_cons (qs_if (qt_cmp (c_ne hu) (qe_callB (cb_repr hu hg) rfl nb.repr_ bB_repr (qa_cons (qe_lstF (qa_cons (qe_meth (qe_var 15) cl_Window c_Window_judge (hr.mono (by decide)) hg tk b_Window_judge_2 (qa_cons (qe_var 6) qa_nil)) (qa_cons (qe_meth (qe_var 13) cl_Window c_Window_judge (hr.mono (by decide)) hg tk b_Window_judge_2 (qa_cons (qe_var 6) qa_nil)) qa_nil))) qa_nil)) (qe_callB (cb_repr hu hg) rfl nb.repr_ bB_repr (qa_cons (qe_lstF (qa_cons (qe_var 14) (qa_cons (qe_var 14) qa_nil))) qa_nil))) (qss_one (qs_ret qe_bl)) qss_nil)
    (qss_cons (qs_if (qt_cmp (c_ne hu) (qe_callB (cb_repr hu hg) rfl nb.repr_ bB_repr (qa_cons (qe_lstF (qa_cons (qe_methK (qe_var 15) cl_Window c_Window_take (hr.mono (by decide)) hg tk b_Window_take_1_counter (qk_cons (qe_var 6) qk_nil)) (qa_cons (qe_meth (qe_var 13) cl_Window c_Window_take (hr.mono (by decide)) hg tk b_Window_take_2 (qa_cons (qe_var 6) qa_nil)) qa_nil))) qa_nil)) (qe_callB (cb_repr hu hg) rfl nb.repr_ bB_repr (qa_cons (qe_lstF (qa_cons (qe_cmp (c_eq hu) (qe_var 14) qe_str) (qa_cons (qe_cmp (c_eq hu) (qe_var 14) qe_str) qa_nil))) qa_nil))) (qss_one (qs_ret qe_bl)) qss_nil)
    (qss_one (qs_set 3 sc_law.nd (qe_ifExp (qt_cmp (c_eq hu) (qe_var 14) qe_str) (qe_addF (qe_var 3) (qe_lstF (qa_cons (qe_var 6) qa_nil))) (qe_var 3))))))))))
    (qss_cons (qs_if (qt_cmp (c_ne hu) (qe_callB (cb_repr hu hg) rfl nb.repr_ bB_repr (qa_cons (qe_lstF (qa_cons (qe_meth0 (qe_var 13) cl_Window c_Window_held (hr.mono (by decide)) hg tk b_Window_held_1) (qa_cons (qe_meth0 (qe_var 13) cl_Window c_Window_greatest (hr.mono (by decide)) hg tk b_Window_greatest_1) qa_nil))) qa_nil)) (qe_callB (cb_repr hu hg) rfl nb.repr_ bB_repr (qa_cons (qe_lstF (qa_cons (qe_meth0 (qe_var 15) cl_Window c_Window_held (hr.mono (by decide)) hg tk b_Window_held_1) (qa_cons (qe_meth0 (qe_var 15) cl_Window c_Window_greatest (hr.mono (by decide)) hg tk b_Window_greatest_1) qa_nil))) qa_nil))) (qss_one (qs_ret qe_bl)) qss_nil)
    (qss_one (qs_ret (qe_call c_law_refused (hr.mono (by decide)) hg tk b_law_refused_4 (qa_cons (qe_var 1) (qa_cons (qe_var 2) (qa_cons (qe_var 9) (qa_cons (qe_var 10) qa_nil)))) qk_nil)))))))))))))))))
/-- what the classes are -/
structure Ok (z : Wd) : Prop where
  k_24 : ClsOk z 24 ["size", "_last", "_bits"]
  r_10 : ErrR z 10 "word"
  x_10_10 : Exm z 10 10 true
end K46
/-! lengths, drawing functions (printed by gen4.py) -/
namespace K46
open PySem PySem.Spec L2 HA
theorem len_law_deal (z : Wd) : ∀ ds M Q E, spSrcT ds M Q E → ds.length = ps_law_deal.length := by
  intro ds M Q E h; repeat (first | (obtain ⟨rfl, _⟩ := h; rfl) | (obtain ⟨rfl | rfl, _⟩ := h <;> rfl) | (obtain ⟨_, h⟩ := h))
theorem v_law_deal (z : Wd) (ok : Ok z) : ∀ ds M Q E, spSrcT ds M Q E → t_law_deal z (anyE Q E) (startA N_law_deal ds) M :=
  v_src2 (aOp bAddF (aC (.int 27644437)) (aOp oMul (aC (.int 53)) (aVar 1))) 2147483549 41 (by decide) fun ns b cs M Q E h0 h1 q => ⟨MulOk.left (by decide) (by decide), q _ (by omega) (by omega)⟩
theorem len_law_draw (z : Wd) : ∀ ds M Q E, spAnyT ds M Q E → ds.length = ps_law_draw.length := by
  intro ds M Q E h; repeat (first | (obtain ⟨rfl, _⟩ := h; rfl) | (obtain ⟨rfl | rfl, _⟩ := h <;> rfl) | (obtain ⟨_, h⟩ := h))
theorem v_law_draw (z : Wd) (ok : Ok z) : ∀ ds M Q E, spAnyT ds M Q E → t_law_draw z (anyE Q E) (startA N_law_draw ds) M := v_any 59 id wInt (by decide) (fun _ => .inr rfl) (fun _ => .inl rfl)
theorem len_law_pick (z : Wd) : ∀ ds M Q E, sp_law_pick z ds M Q E → ds.length = ps_law_pick.length := by
  intro ds M Q E h; repeat (first | (obtain ⟨rfl, _⟩ := h; rfl) | (obtain ⟨rfl | rfl, _⟩ := h <;> rfl) | (obtain ⟨_, h⟩ := h))
theorem v_law_pick (z : Wd) (ok : Ok z) : ∀ ds M Q E, spOf ds M Q E → t_law_pick z (anyE Q E) (startA N_law_pick ds) M := v_of
theorem len_law_next (z : Wd) : ∀ ds M Q E, sp_law_next z ds M Q E → ds.length = ps_law_next.length := by
  intro ds M Q E h; repeat (first | (obtain ⟨rfl, _⟩ := h; rfl) | (obtain ⟨rfl | rfl, _⟩ := h <;> rfl) | (obtain ⟨_, h⟩ := h))
theorem len_law_word (z : Wd) : ∀ ds M Q E, sp_law_word z ds M Q E → ds.length = ps_law_word.length := by
  intro ds M Q E h; repeat (first | (obtain ⟨rfl, _⟩ := h; rfl) | (obtain ⟨rfl | rfl, _⟩ := h <;> rfl) | (obtain ⟨_, h⟩ := h))
theorem len_law_held (z : Wd) : ∀ ds M Q E, sp_law_held z ds M Q E → ds.length = ps_law_held.length := by
  intro ds M Q E h; repeat (first | (obtain ⟨rfl, _⟩ := h; rfl) | (obtain ⟨rfl | rfl, _⟩ := h <;> rfl) | (obtain ⟨_, h⟩ := h))
theorem len_are_held (z : Wd) : ∀ ds M Q E, sp_are_held z ds M Q E → ds.length = ps_are_held.length := by
  intro ds M Q E h; repeat (first | (obtain ⟨rfl, _⟩ := h; rfl) | (obtain ⟨rfl | rfl, _⟩ := h <;> rfl) | (obtain ⟨_, h⟩ := h))
theorem len_window_of (z : Wd) : ∀ ds M Q E, sp_window_of z ds M Q E → ds.length = ps_window_of.length := by
  intro ds M Q E h; repeat (first | (obtain ⟨rfl, _⟩ := h; rfl) | (obtain ⟨rfl | rfl, _⟩ := h <;> rfl) | (obtain ⟨_, h⟩ := h))
theorem len_law_refused (z : Wd) : ∀ ds M Q E, sp_law_refused z ds M Q E → ds.length = ps_law_refused.length := by
  intro ds M Q E h; repeat (first | (obtain ⟨rfl, _⟩ := h; rfl) | (obtain ⟨rfl | rfl, _⟩ := h <;> rfl) | (obtain ⟨_, h⟩ := h))
theorem len_law (z : Wd) : ∀ ds M Q E, sp_law z ds M Q E → ds.length = ps_law.length := by
  intro ds M Q E h; repeat (first | (obtain ⟨rfl, _⟩ := h; rfl) | (obtain ⟨rfl | rfl, _⟩ := h <;> rfl) | (obtain ⟨_, h⟩ := h))
end K46
set_option maxHeartbeats 1000000
namespace K46
open PySem PySem.Spec L2 HA Sh
theorem v_law_word (z : Wd) (ok : Ok z) : ∀ ds M Q E, sp_law_word z ds M Q E → t_law_word z (pureE M Q E) (startA N_law_word ds) M := (by exact HA.Wq.get : @HA.Wq (∀ ds M Q E, sp_law_word z ds M Q E → t_law_word z (pureE M Q E) (startA N_law_word ds) M) (by
  intro ds M Q E ⟨s, ks, c, h, hk, hl, q⟩
  subst h
  walk_at "start"
  walk_at "r"
  by_cases h0 : ks = []
  · subst h0
    rw [wrd_new (by simp) (by simp)] at q
    walk_at "r"
    refine ⟨fun h => absurd h (by simp), fun _ => ?_⟩
    walk_at "r"
    exact q
  · walk_at "r"
    refine i_maxI (List.length_pos_iff.mpr h0) fun m h1 h2 => ?_
    have ht := top_eq hk h1 h2
    walk_at "r"
    refine br (fun h => ?_) (fun h => ?_)
    · rw [wrd_old h0 (by omega)] at q
      walk_at "r"
      exact q
    · walk_at "r"
      by_cases h3 : c ∈ ks
      · rw [wrd_taken (by omega) h3] at q
        rw [decide_eq_true h3]
        walk_at "r"
        exact q
      · rw [wrd_new (by omega) h3] at q
        rw [decide_eq_false h3]
        walk_at "r"
        exact q))
theorem c_law_word (z : Wd) {s : Nat} {ks : List Int} {c : Int} {M : Mem} {Q : DK} {E : AX} (hk : Cnt ks) (hl : ks.length ≤ 1000) (h : Q (.str (wrd s ks c)) M) : sp_law_word z [.int s, lI ks, .int c] M Q E := ⟨s, ks, c, rfl, hk, hl, h⟩
theorem next_tail (z : Wd) {x g : D} {s : Nat} {ks : List Int} {M : Mem} {Q : DK} {E : AX} (hd : Deal M x) (hk : Cnt ks) (h1 : 1 ≤ s) (h2 : s ≤ 2048) (hl : ks.length ≤ 1000) (q : ∀ c : Int, 0 ≤ c → c ≤ top ks + 1000010 → Q (.int c) M) :
    t_law_next_19 z (pureE M Q E) [some x, some (.int s), some g, some (lI ks), some (.int (top ks)), none] M := (by exact HA.Wq.get : @HA.Wq (t_law_next_19 z (pureE M Q E) [some x, some (.int s), some g, some (lI ks), some (.int (top ks)), none] M) (by
  have hb := hk.topb
  unfold pureE
  walk_at "r"
  intro r r0 r1
  walk_at "r"
  refine br (fun h => ?_) (fun h => ?_)
  · walk_at "r"
    intro r2 r20 r21
    walk_at "r"
    intro r3 r30 r31
    walk_at "r"
    exact q _ (by omega) (by omega)
  · have hm : ∀ v : Int, v ≤ top ks + 4000 → Q (.int (if v > 0 then v else 0)) M := fun v hv => q _ (by split <;> omega) (by split <;> omega)
    have tail : t_law_next_15 z (pureE M Q E) [some x, some (.int s), some g, some (lI ks), some (.int (top ks)), some (.int r)] M := by
      unfold pureE
      walk_at "r"
      refine br (fun h => ?_) (fun h => ?_)
      · walk_at "r"
        intro r2 r20 r21
        walk_at "r"
        exact hm _ (by omega)
      · walk_at "r"
        refine br (fun h => ?_) (fun h => ?_)
        · walk_at "r"
          intro r2 r20 r21
          walk_at "r"
          exact hm _ (by omega)
        · walk_at "r"
          intro k hk2
          walk_at "s"
          walk_at "s"
          have hk3 : 0 < k ∧ k ≤ 1000000 := by
            have e6 : (10 : Int) ^ (Int.toNat 6) = 1000000 := by decide
            simp only [List.mem_cons, List.not_mem_nil, or_false, e6] at hk2
            omega
          walk_at "r"
          intro r2 r20 r21
          walk_at "r"
          exact q _ (by omega) (by omega)
    unfold pureE at tail
    walk_at "s"
    walk_at "s"
    walk_at "s"
    walk_at "s"
    unfold t_law_next_16
    generalize t_law_next_15 z = T at tail ⊢
    by_cases h0 : ks = []
    · walk_at "r"
      refine br (fun h2 => ?_) (fun h2 => ?_)
      · walk_at "r"
        refine ⟨fun h => absurd h (by simp [h0]), fun _ => ?_⟩
        walk_at "r"
        exact tail
      · walk_at "r"
        refine br (fun h7 => ?_) (fun h7 => ?_)
        · walk_at "r"
          refine ⟨fun h => absurd h (by simp [h0]), fun _ => ?_⟩
          walk_at "r"
          exact tail
        · walk_at "r"
          exact tail
    · walk_at "r"
      refine br (fun h2 => ?_) (fun h2 => ?_)
      · walk_at "r"
        intro r2 r20 r21
        walk_at "r"
        exact hm _ (by omega)
      · walk_at "r"
        refine br (fun h7 => ?_) (fun h7 => ?_)
        · walk_at "r"
          refine c_oflI hd h0 (by omega) fun k hk2 => ?_
          have := hk k hk2
          have := le_top hk2
          walk_at "r"
          exact q _ (by omega) (by omega)
        · walk_at "r"
          exact tail))
theorem v_law_next (z : Wd) (ok : Ok z) : ∀ ds M Q E, sp_law_next z ds M Q E → t_law_next z (pureE M Q E) (startA N_law_next ds) M := (by exact HA.Wq.get : @HA.Wq (∀ ds M Q E, sp_law_next z ds M Q E → t_law_next z (pureE M Q E) (startA N_law_next ds) M) (by
  intro ds M Q E ⟨x, s, ks, h, hd, hk, h1, h2, hl, q⟩
  subst h
  have tl := next_tail z (E := E) (g := wnL ks) hd hk h1 h2 hl q
  unfold pureE at tl
  by_cases h0 : ks = []
  · subst h0
    rw [wnL_nil, top_nil] at tl
    rw [wnL_nil]
    walk_at "start"
    walk_at "s"
    walk_at "s"
    walk_at "s"
    generalize t_law_next_19 z = T at tl ⊢
    walk_at "r"
    exact tl
  · rw [wnL_some h0] at tl ⊢
    walk_at "start"
    walk_at "s"
    walk_at "s"
    walk_at "s"
    generalize t_law_next_19 z = T at tl ⊢
    walk_at "r"
    exact tl))
end K46
set_option maxHeartbeats 1000000
namespace K46
open PySem PySem.Spec L2 HA Sh
theorem v_law_held (z : Wd) (ok : Ok z) : ∀ ds M Q E, sp_law_held z ds M Q E → t_law_held z (pureE M Q E) (startA N_law_held ds) M := (by exact HA.Wq.get : @HA.Wq (∀ ds M Q E, sp_law_held z ds M Q E → t_law_held z (pureE M Q E) (startA N_law_held ds) M) (by
  intro ds M Q E ⟨s, ks, h, hk, hn, hl, h1, h2, ht, q⟩
  subst h
  walk_at "start"
  walk_at "r"
  by_cases h0 : ks = []
  · subst h0
    walk_at "r"
    exact q
  · walk_at "r"
    refine i_maxI (List.length_pos_iff.mpr h0) fun m g1 g2 => ?_
    obtain rfl := top_eq hk g1 g2
    walk_at "r"
    refine lc_filter (l := ks) (enc := .int) (f := .int) (p := fun c => decide (top ks - s < c)) rfl (fun _ _ => trivial) (sz_le (by omega)) (fun c hc M' P N hM2 hP hN => ?_) ?_
    · walk_at "r"
      refine ⟨fun h => ?_, fun h => hN h⟩
      walk_at "r"
      exact hP h
    · walk_at "s"
      walk_at "s"
      intro hs hp hs2
      have hb := hk.top0 h0
      have e1 : hs = blw s ks true := asc_eq (asc_of_nodup hs2 ((hp.nodup_iff).mpr (hn.filter _))) blw_lt fun c => by
        rw [hp.mem_iff, List.mem_filter, mem_blw hk]
        unfold wlo
        constructor
        · intro ⟨a1, a2⟩
          have := of_decide_eq_true a2
          have := hk c a1
          exact ⟨h0, by omega, le_top a1, decide_eq_true a1⟩
        · intro ⟨_, a1, a2, a3⟩
          exact ⟨of_decide_eq_true a3, decide_eq_true (by omega)⟩
      subst e1
      walk_at "r"
      have e0 : (if top ks - (s : Int) + 1 > 0 then top ks - (s : Int) + 1 else 0) = wlo s ks := by unfold wlo; split <;> omega
      rw [e0]
      have e2 : (rgI (wlo s ks) (top ks - wlo s ks).toNat).filter (fun c => !decide (c ∈ blw s ks true)) = blw s ks false := asc_eq (rgI_lt.filter _) blw_lt fun c => by
        rw [List.mem_filter, mem_rgI, mem_blw (b := false) hk]
        rw [Bool.not_eq_true', decide_eq_false_iff_not, mem_blw hk]
        constructor
        · intro ⟨⟨a1, a2⟩, a3⟩
          refine ⟨h0, a1, by omega, ?_⟩
          exact decide_eq_false fun a4 => a3 ⟨h0, a1, by omega, decide_eq_true a4⟩
        · intro ⟨_, a1, a2, a3⟩
          have a3 := of_decide_eq_false a3
          have : c ≠ top ks := fun e => a3 (by rw [e]; exact g1)
          exact ⟨⟨a1, by omega⟩, fun ⟨_, _, _, a4⟩ => a3 (of_decide_eq_true a4)⟩
      refine lc_filter (l := rgI (wlo s ks) (top ks - wlo s ks).toNat) (enc := .int) (f := .int) (p := fun c => !decide (c ∈ blw s ks true)) (by unfold rangeD rgI; rw [List.map_map]; rfl) (fun _ _ => trivial) (sz_le (by unfold rgI; rw [List.length_map, List.length_range]; unfold wlo; omega)) (fun c hc M' P N hM2 hP hN => ?_) ?_
      · walk_at "r"
        refine ⟨fun h => ?_, fun h => hN h⟩
        walk_at "r"
        exact hP h
      · rw [e2]
        walk_at "r"
        exact q))
end K46
set_option maxHeartbeats 1000000
namespace K46
open PySem PySem.Spec L2 HA Sh
theorem asc_zip : ∀ ns : List Int, ((ns.zip (ns.drop 1)).map fun p => decide (p.1 < p.2)).all id = decide (ns.Pairwise (· < ·))
  | [] => by simp
  | [x] => by simp
  | x :: y :: r => by
    have ih := asc_zip (y :: r)
    have e : ((x :: y :: r).zip ((x :: y :: r).drop 1)) = (x, y) :: ((y :: r).zip ((y :: r).drop 1)) := rfl
    rw [e, List.map_cons, List.all_cons, ih]
    have h : (x :: y :: r).Pairwise (· < ·) ↔ x < y ∧ (y :: r).Pairwise (· < ·) := by
      constructor
      · intro h
        have h1 := List.pairwise_cons.mp h
        exact ⟨h1.1 y (.head _), h1.2⟩
      · intro ⟨h1, h2⟩
        refine List.pairwise_cons.mpr ⟨fun z hz => ?_, h2⟩
        rcases List.mem_cons.mp hz with rfl | hz
        · exact h1
        · have := (List.pairwise_cons.mp h2).1 z hz; omega
    rw [show (id (decide ((x, y).1 < (x, y).2)) : Bool) = decide (x < y) from rfl, ← Bool.decide_and]
    exact decide_eq_decide.mpr h.symm
theorem atI_last {ns : List Int} (h : 0 < ns.length) : atI ns (-1) = some (ns.getD (ns.length - 1) 0) := (by exact HA.Wq.get : @HA.Wq (atI ns (-1) = some (ns.getD (ns.length - 1) 0)) (by
  unfold atI ixN
  rw [if_neg (by decide), if_pos (by omega)]
  show ns[(-1 + (ns.length : Int)).toNat]? = _
  rw [show (-1 + (ns.length : Int)).toNat = ns.length - 1 by omega, List.getD_eq_getElem?_getD, List.getElem?_eq_getElem (by omega)]; rfl))
theorem held_tail (z : Wd) (ok : Ok z) {s : Int} {ks ns : List Int} {M : Mem} {Q : DK} {E : AX} (hl : ns.length ≤ 100000) (q : Q (.bl (arI s (wnL ks) ns)) M) :
    t_are_held_9 z (pureE M Q E) [some (.int s), some (wnL ks), some (tI ns), none, none, none] M := (by exact HA.Wq.get : @HA.Wq (t_are_held_9 z (pureE M Q E) [some (.int s), some (wnL ks), some (tI ns), none, none, none] M) (by
  unfold pureE
  by_cases h0 : ks = []
  · subst h0
    rw [wnL_nil] at *
    unfold arI at q
    dsimp only at q
    walk_at "r"
    have e : (false ^^ decide ((ns.length : Int) = 0)) = ns.isEmpty := by cases ns <;> simp; omega
    rw [e]
    exact q
  · rw [wnL_some h0] at *
    unfold arI at q
    dsimp only at q
    walk_at "r"
    refine br (fun h => ?_) (fun h => ?_)
    · have : ns = [] := List.eq_nil_of_length_eq_zero (by omega)
      subst this
      walk_at "r"
      exact q
    · have hne : ns.isEmpty = false := by cases ns with | nil => simp at h | cons _ _ => rfl
      rw [hne] at q
      walk_at "r"
      have ez : zipD (ns.map .int) ((ns.drop 1).map .int) = (ns.zip (ns.drop 1)).map fun p => .tup [.int p.1, .int p.2] := by
        unfold zipD
        rw [List.zipWith_map, List.zip_eq_zipWith, List.map_zipWith]
      rw [ez]
      refine lc_map (l := ns.zip (ns.drop 1)) (enc := fun p => .tup [.int p.1, .int p.2]) (f := fun p => .bl (decide (p.1 < p.2))) rfl (fun _ _ => trivial) (sz_le (by rw [List.length_zip]; omega)) (fun p hp M' P N hM2 hP => ?_) ?_
      · obtain ⟨p1, p2⟩ := p
        walk_at "r"
        exact hP
      · have el : ((ns.zip (ns.drop 1)).map fun p => D.bl (decide (p.1 < p.2))) = ((ns.zip (ns.drop 1)).map fun p => decide (p.1 < p.2)).map D.bl := by rw [List.map_map]; rfl
        rw [el]
        walk_at "r"
        rw [asc_zip]
        by_cases hp : ns.Pairwise (· < ·)
        · rw [decide_eq_true hp] at q ⊢
          have hpos : 0 < ns.length := by omega
          walk_at "r"
          refine ix_t (k := 0) rfl hpos ?_
          walk_at "r"
          refine ⟨fun h1 => ?_, fun h1 => ?_⟩
          · have h1 := of_decide_eq_true h1
            rw [decide_eq_true h1] at q
            walk_at "r"
            refine i_ixtI (m := ns.getD (ns.length - 1) 0) (atI_last hpos) ?_
            walk_at "r"
            rw [Bool.false_xor]
            exact q
          · rw [decide_eq_false (of_decide_eq_false h1)] at q
            rw [h1]
            walk_at "r"
            exact q
        · rw [decide_eq_false hp] at q ⊢
          walk_at "r"
          exact q))
theorem v_are_held (z : Wd) (ok : Ok z) : ∀ ds M Q E, sp_are_held z ds M Q E → t_are_held z (pureE M Q E) (startA N_are_held ds) M := (by exact HA.Wq.get : @HA.Wq (∀ ds M Q E, sp_are_held z ds M Q E → t_are_held z (pureE M Q E) (startA N_are_held ds) M) (by
  intro ds M Q E ⟨s, ks, x, h, hx, hh⟩
  subst h
  rcases hh with ⟨ns, rfl, hc, hl, q⟩ | ⟨hn, q⟩
  · have tl := held_tail z ok (E := E) hl q
    unfold pureE at tl
    walk_at "start"
    walk_at "s"
    generalize t_are_held_9 z = T at tl ⊢
    walk_at "r"
    refine lc_map (l := ns) (enc := .int) (f := fun c => .bl (cq (.int c))) rfl (fun _ _ => trivial) (sz_le (by omega)) (fun c hc M' P N hM2 hP => ?_) ?_
    · walk_at "r"
      refine c_is_counter z trivial ?_
      exact hP
    · have el : (ns.map fun c => D.bl (cq (.int c))) = (ns.map fun c => cq (.int c)).map D.bl := by rw [List.map_map]; rfl
      have ea : (ns.map fun c => cq (.int c)).all id = true := by
        rw [List.all_eq_true]; intro b hb
        obtain ⟨c, hcc, rfl⟩ := List.mem_map.mp hb
        exact decide_eq_true (hc c hcc)
      rw [el]
      walk_at "r"
      rw [ea]
      walk_at "r"
      exact tl
  · rcases hn with hn | ⟨xs, rfl, hl, ha, hb⟩ | ⟨ns, rfl, hc, hl, ha⟩
    · walk_at "start"
      cases x with
      | frz _ => exact hx.elim
      | ref _ => exact hx.elim
      | ty _ => exact hx.elim
      | tup l => exact absurd rfl (hn l)
      | lst l =>
        walk_at "r"
        refine i_isiF (S := "list") ⟨rfl, _, rfl⟩ (by decide) (by decide) ?_
        walk_at "r"; exact q
      | _ => walk_at "r"; exact q
    · walk_at "start"
      walk_at "r"
      refine lc_map (l := xs) (enc := id) (f := fun c => .bl (cq c)) (by simp) (fun _ _ => trivial) (sz_le (by omega)) (fun c hc M' P N hM2 hP => ?_) ?_
      · walk_at "r"
        refine c_is_counter z (ha c hc) ?_
        exact hP
      · have el : (xs.map fun c => D.bl (cq c)) = (xs.map cq).map D.bl := by rw [List.map_map]; rfl
        have ea : (xs.map cq).all id = false := by
          rw [List.all_eq_false]
          obtain ⟨d, hd, e⟩ := hb
          exact ⟨cq d, List.mem_map.mpr ⟨d, hd, rfl⟩, by rw [e]; decide⟩
        rw [el]
        walk_at "r"
        rw [ea]
        walk_at "r"
        exact q
    · have tl := held_tail z ok (s := s) (ks := ks) (E := E) hl (by rw [ha]; exact q)
      unfold pureE at tl
      walk_at "start"
      walk_at "s"
      generalize t_are_held_9 z = T at tl ⊢
      walk_at "r"
      refine lc_map (l := ns) (enc := .int) (f := fun c => .bl (cq (.int c))) rfl (fun _ _ => trivial) (sz_le (by omega)) (fun c hc M' P N hM2 hP => ?_) ?_
      · walk_at "r"
        refine c_is_counter z trivial ?_
        exact hP
      · have el : (ns.map fun c => D.bl (cq (.int c))) = (ns.map fun c => cq (.int c)).map D.bl := by rw [List.map_map]; rfl
        have ea : (ns.map fun c => cq (.int c)).all id = true := by
          rw [List.all_eq_true]; intro b hb
          obtain ⟨c, hcc, rfl⟩ := List.mem_map.mp hb
          exact decide_eq_true (hc c hcc)
        rw [el]
        walk_at "r"
        rw [ea]
        walk_at "r"
        exact tl))
end K46
set_option maxHeartbeats 1000000
namespace K46
open PySem PySem.Spec L2 HA Sh
theorem c_are_held (z : Wd) {s : Int} {ks ns : List Int} {M : Mem} {Q : DK} {E : AX} (hc : Cnt ns) (hl : ns.length ≤ 100000) (q : Q (.bl (arI s (wnL ks) ns)) M) : sp_are_held z [.int s, wnL ks, tI ns] M Q E := ⟨s, ks, _, rfl, trivial, .inl ⟨ns, rfl, hc, hl, q⟩⟩
theorem c_are_heldX (z : Wd) {s : Int} {ks : List Int} {x : D} {M : Mem} {Q : DK} {E : AX} (hx : Any1 x) (hn : NoH s (wnL ks) x) (q : Q (.bl false) M) : sp_are_held z [.int s, wnL ks, x] M Q E := ⟨s, ks, _, rfl, hx, .inr ⟨hn, q⟩⟩
theorem blw_cnt {s : Nat} {ks : List Int} {b : Bool} (h : Cnt ks) : Cnt (blw s ks b) := fun c hc => by
  have := (mem_blw h).mp hc
  have h2 := h.top0 this.1
  unfold wlo at this
  omega
theorem top_blw {s : Nat} {ks : List Int} (h : Cnt ks) (h0 : ks ≠ []) (hs : 1 ≤ s) : top ks ∈ blw s ks true := (by exact HA.Wq.get : @HA.Wq (top ks ∈ blw s ks true) (by
  rw [mem_blw h]
  have := h.top0 h0
  unfold wlo
  exact ⟨h0, by omega, Int.le_refl _, decide_eq_true (h.top_mem h0)⟩))
theorem blw_top {s : Nat} {ks : List Int} (h : Cnt ks) (h0 : ks ≠ []) (hs : 1 ≤ s) : top (blw s ks true) = top ks :=
  top_eq (blw_cnt h) (top_blw h h0 hs) fun y hy => ((mem_blw h).mp hy).2.2.1
theorem asc_last {ns : List Int} {t : Int} (hp : ns.Pairwise (· < ·)) (h1 : t ∈ ns) (h2 : ∀ y ∈ ns, y ≤ t) : 0 < ns.length ∧ ns.getD (ns.length - 1) 0 = t := (by exact HA.Wq.get : @HA.Wq (0 < ns.length ∧ ns.getD (ns.length - 1) 0 = t) (by
  obtain ⟨i, hi, e⟩ := List.getElem_of_mem h1
  refine ⟨by omega, ?_⟩
  rw [List.getD_eq_getElem?_getD, List.getElem?_eq_getElem (by omega)]
  show ns[ns.length - 1] = t
  have h3 := h2 _ (List.getElem_mem (show ns.length - 1 < ns.length by omega))
  by_cases hil : i = ns.length - 1
  · subst hil; exact e
  · have := List.pairwise_iff_getElem.mp hp i (ns.length - 1) hi (by omega) (by omega)
    omega))
theorem arI_held {s : Nat} {ks : List Int} (h : Cnt ks) (hs : 1 ≤ s) : arI s (wnL ks) (blw s ks true) = true := (by exact HA.Wq.get : @HA.Wq (arI s (wnL ks) (blw s ks true) = true) (by
  by_cases h0 : ks = []
  · subst h0; rfl
  · rw [wnL_some h0]
    have ⟨hl, e⟩ := asc_last blw_lt (top_blw h h0 hs) fun y hy => ((mem_blw h).mp hy).2.2.1
    have hm : (blw s ks true).getD 0 0 ∈ blw s ks true := by
      rw [List.getD_eq_getElem?_getD, List.getElem?_eq_getElem hl]; exact List.getElem_mem hl
    have h5 := (mem_blw h).mp hm
    unfold wlo at h5
    unfold arI
    have e0 : (blw s ks true).isEmpty = false := by cases hb : blw s ks true with | nil => rw [hb] at hl; exact absurd hl (by decide) | cons _ _ => rfl
    simp only [e0, e, decide_eq_true blw_lt, Bool.not_false, Bool.true_and, decide_true, Bool.and_true]
    exact decide_eq_true (by omega)))
theorem wnC_held (z : Wd) {s : Nat} {ks : List Int} (h : Cnt ks) (hs : 1 ≤ s) : wnC z s (blw s ks true) = wnC z s ks := (by exact HA.Wq.get : @HA.Wq (wnC z s (blw s ks true) = wnC z s ks) (by
  by_cases h0 : ks = []
  · subst h0; rfl
  · have hb0 : blw s ks true ≠ [] := fun e => by have := top_blw h h0 hs; rw [e] at this; exact nomatch this
    have e1 := blw_top h h0 hs
    have e2 : wnB s (blw s ks true) = wnB s ks := by
      unfold wnB
      refine wb_eq fun d => ?_
      rw [wb_bit, e1]
      by_cases hd : d < s
      · have : (top ks - (d : Int) ∈ blw s ks true) ↔ top ks - (d : Int) ∈ ks := by
          rw [mem_blw h]
          unfold wlo
          constructor
          · intro ⟨_, _, _, a⟩; exact of_decide_eq_true a
          · intro a
            have := h _ a
            exact ⟨h0, by omega, by omega, decide_eq_true a⟩
        rw [decide_eq_decide.mpr this]
      · simp [hd]
    unfold wnC
    rw [wnL_some hb0, wnL_some h0, e1, e2]))
theorem new_up {s : Nat} {ks : List Int} {c : Int} (h : ∀ k ∈ ks, k < c) (hk : Cnt ks) (hs : 1 ≤ s) : isNew s ks c = true := (by exact HA.Wq.get : @HA.Wq (isNew s ks c = true) (by
  rcases wrd_eq (s := s) (ks := ks) (c := c) with ⟨_, e, _⟩ | ⟨e, _⟩
  · exact e
  · refine absurd (wrd_new ?_ ?_) e
    · intro ⟨h0, h2⟩
      have := h _ (hk.top_mem h0); omega
    · intro h2
      have := h _ h2; omega))
theorem v_window_of (z : Wd) (ok : Ok z) : ∀ ds M Q E, sp_window_of z ds M Q E → t_window_of z (anyE Q E) (startA N_window_of ds) M := (by exact HA.Wq.get : @HA.Wq (∀ ds M Q E, sp_window_of z ds M Q E → t_window_of z (anyE Q E) (startA N_window_of ds) M) (by
  intro ds M Q E ⟨x, g, y, h, hx, hg, hy, hh⟩
  subst h
  have k24 := ok.k_24
  have r10 := ok.r_10
  walk_at "start"
  walk_at "r"
  rename_i a ha
  have fin4 : ∀ (s : Nat) (ks : List Int), x = .int s → g = wnL ks → 1 ≤ s → s ≤ 1024 → Cnt ks → NoH s g y → E (z.C 10) [("word", .str "held")] M →
      t_window_of_11 z (anyE Q E) [some x, some g, some y, some (.ref a), none] (mset M a (wnC z s [])) := fun s ks ex eg s1 s2 hk hn q => by
    subst ex; subst eg
    unfold anyE
    by_cases h0 : ks = []
    · subst h0
      rw [wnL_nil]
      walk_at "r"
      refine c_are_heldX z (ks := []) hy hn ?_
      walk_at "r"
      exact ⟨_, MLe.new ha, q⟩
    · rw [wnL_some h0]
      have ht := hk.top0 h0
      walk_at "r"
      refine c_need_counter z ht.1 ht.2 ?_
      walk_at "r"
      rw [← wnL_some h0]
      refine c_are_heldX z (ks := ks) hy hn ?_
      walk_at "r"
      exact ⟨_, MLe.new ha, q⟩
  rcases hh with ⟨s, ks, rfl, rfl, rfl, s1, s2, hk, q⟩ | ⟨hs, q⟩ | ⟨hs, hg0, hgc, q⟩ | ⟨s, ks, ex, eg, s1, s2, hk, hn, q⟩
  · have hlen := blw_len (s := s) (ks := ks) (b := true)
    have loop : t_window_of_9 z (anyE Q E) [some (.int s), some (wnL ks), some (tI (blw s ks true)), some (.ref a), none] (mset M a (wnC z s [])) := by
      unfold anyE
      walk_at "r"
      refine for_list (l := blw s ks true) (enc := .int) (fun pre σ M' => M' = mset M a (wnC z s pre) ∧ ∃ o4 : Option D, σ = [some (.int s), some (wnL ks), some (tI (blw s ks true)), some (.ref a), o4]) rfl ⟨rfl, _, rfl⟩ ?_ ?_
      · rintro pre c rest e σ M' ⟨rfl, o4, rfl⟩
        have hp := blw_lt (s := s) (ks := ks) (b := true)
        rw [e] at hp
        have hp2 := List.pairwise_append.mp hp
        have hcm : c ∈ blw s ks true := by rw [e]; simp
        have hcc := blw_cnt (s := s) (b := true) hk c hcm
        have hpre : Cnt pre := fun k hk2 => blw_cnt (s := s) (b := true) hk k (by rw [e]; simp [hk2])
        have hnew := new_up (s := s) (ks := pre) (c := c) (fun k hk2 => hp2.2.2 k hk2 c (.head _)) hpre s1
        have w : WnAt z (mset M a (wnC z s pre)) a s pre := ⟨mset_same, s1, s2, hpre⟩
        have hA : mset M a (wnC z s pre) a = some (wnC z s pre) := mset_same
        walk_at "r"
        refine c_Window_take z w hcc.1 hcc.2 ?_
        walk_at "r"
        exact ⟨by rw [mset_mset]; unfold tk; rw [hnew, if_pos rfl], _, rfl⟩
      · rintro σ M' ⟨rfl, o4, rfl⟩
        rw [wnC_held z hk s1]
        walk_at "r"
        exact ⟨_, .refl _, q a ha⟩
    unfold anyE at loop
    refine c_Window___init__ z s1 s2 ?_
    unfold t_window_of_11 t_window_of_10
    generalize t_window_of_9 z = T at loop ⊢
    have hbc := blw_cnt (s := s) (b := true) hk
    have hah := arI_held hk s1
    by_cases h0 : ks = []
    · subst h0
      rw [wnL_nil] at *
      walk_at "r"
      refine c_are_held z (ks := []) hbc (by omega) ?_
      rw [wnL_nil, hah]
      walk_at "r"
      exact loop
    · rw [wnL_some h0] at *
      have ht := hk.top0 h0
      walk_at "r"
      refine c_need_counter z ht.1 ht.2 ?_
      walk_at "r"
      rw [← wnL_some h0] at hah ⊢
      refine c_are_held z (ks := ks) hbc (by omega) ?_
      rw [hah]
      walk_at "r"
      rw [wnL_some h0]
      exact loop
  · refine c_Window___init__X z hx hs ?_
    walk_at "r"
    exact ⟨_, MLe.new ha, q⟩
  · cases x with
    | int i =>
      have hi : 1 ≤ i ∧ i ≤ 1024 := of_decide_eq_true hs
      obtain ⟨s, rfl⟩ : ∃ s : Nat, i = (s : Int) := ⟨i.toNat, by omega⟩
      refine c_Window___init__ z (by omega) (by omega) ?_
      walk_at "r"
      have hgn : isNon g = false := by cases g <;> first | rfl | exact absurd rfl hg0
      rw [hgn]
      walk_at "r"
      refine c_need_counterX z hg hgc ?_
      exact ⟨_, MLe.new ha, q⟩
    | _ => exact nomatch hs
  · have f4 := fin4 s ks ex eg s1 s2 hk hn q
    unfold anyE at f4
    subst ex
    refine c_Window___init__ z s1 s2 ?_
    generalize t_window_of_11 z = T at f4 ⊢
    walk_at "r"
    exact f4))
end K46
set_option maxHeartbeats 1000000
namespace K46
open PySem PySem.Spec L2 HA Sh
theorem c_window_of (z : Wd) {s : Nat} {ks : List Int} {M : Mem} {Q : DK} {E : AX} (s1 : 1 ≤ s) (s2 : s ≤ 1024) (hk : Cnt ks) (q : ∀ a, M a = none → Q (.ref a) (mset M a (wnC z s ks))) : sp_window_of z [.int s, wnL ks, tI (blw s ks true)] M Q E :=
  ⟨_, _, _, rfl, trivial, (by unfold wnL; split <;> trivial), trivial, .inl ⟨s, ks, rfl, rfl, rfl, s1, s2, hk, q⟩⟩
theorem c_window_ofS (z : Wd) {x g y : D} {M : Mem} {Q : DK} {E : AX} (hx : Any1 x) (hg : Any1 g) (hy : Any1 y) (e : szQ x = false) (h : E (z.C 10) [("word", .str "size")] M) : sp_window_of z [x, g, y] M Q E :=
  ⟨_, _, _, rfl, hx, hg, hy, .inr (.inl ⟨e, h⟩)⟩
theorem c_window_ofC (z : Wd) {s : Nat} {g y : D} {M : Mem} {Q : DK} {E : AX} (s1 : 1 ≤ s) (s2 : s ≤ 1024) (hg : Any1 g) (hy : Any1 y) (e : g ≠ .non) (e2 : cq g = false) (h : E (z.C 10) [("word", .str "counter")] M) : sp_window_of z [.int s, g, y] M Q E :=
  ⟨_, _, _, rfl, trivial, hg, hy, .inr (.inr (.inl ⟨decide_eq_true ⟨by omega, by omega⟩, e, e2, h⟩))⟩
theorem c_window_ofH (z : Wd) {s : Nat} {ks : List Int} {y : D} {M : Mem} {Q : DK} {E : AX} (s1 : 1 ≤ s) (s2 : s ≤ 1024) (hk : Cnt ks) (hy : Any1 y) (hn : NoH s (wnL ks) y) (h : E (z.C 10) [("word", .str "held")] M) : sp_window_of z [.int s, wnL ks, y] M Q E :=
  ⟨_, _, _, rfl, trivial, (by unfold wnL; split <;> trivial), hy, .inr (.inr (.inr ⟨s, ks, rfl, rfl, s1, s2, hk, hn, h⟩))⟩
theorem no_bad {s : Int} {g : D} {xs : List D} (hl : xs.length ≤ 100000) (ha : ∀ d ∈ xs, Any1 d) {d : D} (hd : d ∈ xs) (e : cq d = false) : NoH s g (.tup xs) := .inr (.inl ⟨xs, rfl, hl, ha, d, hd, e⟩)
theorem any_ints {ns : List Int} : ∀ d ∈ ns.map D.int, Any1 d := fun d hd => by obtain ⟨i, _, rfl⟩ := List.mem_map.mp hd; trivial
theorem refused_menu {s : Nat} {ks : List Int} (s1 : 1 ≤ s) (hk : Cnt ks) (ht : top ks < 9223372036854775807) (hl : (blw s ks true).length ≤ 2000) :
    (∀ g, NoH s g .non ∧ NoH s g (lI (blw s ks true)) ∧ NoH s g (.int 0) ∧ NoH s g (.str "") ∧ NoH s g (tI ((blw s ks true).reverse ++ [9223372036854775808])) ∧ NoH s g (.tup [.non]) ∧ NoH s g (tI [-1]) ∧ NoH s g (.tup ((blw s ks true).map .int ++ [.bl true])) ∧ NoH s g (.tup [.tup [], .tup []])) ∧
    (ks ≠ [] → NoH s (wnL ks) (tI (blw s ks true ++ (blw s ks true).drop ((blw s ks true).length - 1))) ∧ NoH s (wnL ks) (tI []) ∧ (s ≤ top ks → NoH s (wnL ks) (tI ([top ks - s] ++ blw s ks true))) ∧ NoH s (wnL ks) (tI ((blw s ks true).take ((blw s ks true).length - 1))) ∧ NoH s (wnL ks) (tI (blw s ks true ++ [top ks + 1]))) ∧
    NoH s (wnL []) (tI [0]) := (by exact HA.Wq.get : @HA.Wq ((∀ g, NoH s g .non ∧ NoH s g (lI (blw s ks true)) ∧ NoH s g (.int 0) ∧ NoH s g (.str "") ∧ NoH s g (tI ((blw s ks true).reverse ++ [9223372036854775808])) ∧ NoH s g (.tup [.non]) ∧ NoH s g (tI [-1]) ∧ NoH s g (.tup ((blw s ks true).map .int ++ [.bl true])) ∧ NoH s g (.tup [.tup [], .tup []])) ∧ (ks ≠ [] → NoH s (wnL ks) (tI (blw s ks true ++ (blw s ks true).drop ((blw s ks true).length - 1))) ∧ NoH s (wnL ks) (tI []) ∧ (s ≤ top ks → NoH s (wnL ks) (tI ([top ks - s] ++ blw s ks true))) ∧ NoH s (wnL ks) (tI ((blw s ks true).take ((blw s ks true).length - 1))) ∧ NoH s (wnL ks) (tI (blw s ks true ++ [top ks + 1]))) ∧ NoH s (wnL []) (tI [0])) (by
  have hc := blw_cnt (s := s) (b := true) hk
  refine ⟨fun g => ⟨.inl (by simp), .inl (fun xs e => nomatch e), .inl (by simp), .inl (by simp), ?_, ?_, ?_, ?_, ?_⟩, fun h0 => ?_, ?_⟩
  · exact no_bad (xs := ((blw s ks true).reverse ++ [9223372036854775808]).map .int) (by simp; omega) any_ints (d := .int 9223372036854775808) (by simp) rfl
  · exact no_bad (by simp) (by simp [Any1]) (d := .non) (by simp) rfl
  · exact no_bad (xs := [.int (-1)]) (by simp) (by simp [Any1]) (d := .int (-1)) (by simp) rfl
  · exact no_bad (by simp; omega) (fun d hd => (List.mem_append.mp hd).elim (any_ints d) fun h => by rw [List.mem_singleton.mp h]; trivial) (d := .bl true) (by simp) rfl
  · exact no_bad (by simp) (by simp [Any1]) (d := .tup []) (by simp) rfl
  · have hp := blw_lt (s := s) (ks := ks) (b := true)
    have htm := top_blw (s := s) hk h0 s1
    have hle : ∀ y ∈ blw s ks true, y ≤ top ks := fun y hy => ((mem_blw hk).mp hy).2.2.1
    have ⟨hpos, hlast⟩ := asc_last hp htm hle
    have t0 := hk.top0 h0
    rw [wnL_some h0]
    generalize blw s ks true = hs at *
    refine ⟨.inr (.inr ⟨_, rfl, ?_, ?_, ?_⟩), .inr (.inr ⟨_, rfl, Cnt.nil, by simp, rfl⟩), fun hst => .inr (.inr ⟨_, rfl, ?_, ?_, ?_⟩), .inr (.inr ⟨_, rfl, ?_, ?_, ?_⟩), .inr (.inr ⟨_, rfl, ?_, ?_, ?_⟩)⟩
    · exact fun k hk2 => (List.mem_append.mp hk2).elim (hc k) fun h => hc k (List.mem_of_mem_drop h)
    · simp; omega
    · have : ¬ (hs ++ hs.drop (hs.length - 1)).Pairwise (· < ·) := fun h => by
        have h2 := List.pairwise_append.mp h
        have := h2.2.2 hs[hs.length - 1] (List.getElem_mem (by omega)) hs[hs.length - 1] (by rw [List.drop_eq_getElem_cons (show hs.length - 1 < hs.length by omega)]; exact List.Mem.head _)
        omega
      unfold arI; dsimp only
      rw [decide_eq_false this]; simp
    · exact fun k hk2 => (List.mem_append.mp hk2).elim (fun h => by rw [List.mem_singleton.mp h]; omega) (hc k)
    · simp; omega
    · unfold arI; dsimp only
      have : ¬ (top ks - s < ([top ks - (s : Int)] ++ hs).getD 0 0) := by simp
      rw [decide_eq_false this]; simp
    · exact fun k hk2 => hc k (List.mem_of_mem_take hk2)
    · rw [List.length_take]; omega
    · unfold arI; dsimp only
      cases hb : (hs.take (hs.length - 1)).isEmpty with
      | true => rfl
      | false =>
        have hl2 : 0 < (hs.take (hs.length - 1)).length := by
          cases hh : hs.take (hs.length - 1) with
          | nil => rw [hh] at hb; exact nomatch hb
          | cons _ _ => simp
        have hl3 : (hs.take (hs.length - 1)).length = hs.length - 1 := by rw [List.length_take]; omega
        have : ¬ ((hs.take (hs.length - 1)).getD ((hs.take (hs.length - 1)).length - 1) 0 = top ks) := fun e => by
          rw [hl3, List.getD_eq_getElem?_getD, List.getElem?_take, if_pos (by omega), List.getElem?_eq_getElem (by omega)] at e
          rw [List.getD_eq_getElem?_getD, List.getElem?_eq_getElem (by omega)] at hlast
          have e : hs[hs.length - 1 - 1] = top ks := e
          have hlast : hs[hs.length - 1] = top ks := hlast
          have := List.pairwise_iff_getElem.mp hp (hs.length - 1 - 1) (hs.length - 1) (by omega) (by omega) (by omega)
          omega
        rw [decide_eq_false this]; simp
    · exact fun k hk2 => (List.mem_append.mp hk2).elim (hc k) fun h => by rw [List.mem_singleton.mp h]; omega
    · simp; omega
    · unfold arI; dsimp only
      have : ¬ ((hs ++ [top ks + 1]).getD ((hs ++ [top ks + 1]).length - 1) 0 = top ks) := fun e => by
        rw [List.length_append, List.getD_eq_getElem?_getD, List.getElem?_append_right (by simp)] at e
        simp at e
        omega
      rw [decide_eq_false this]; simp
  · exact .inr (.inr ⟨[0], rfl, fun k hk2 => by rw [List.mem_singleton.mp hk2]; omega, by simp, rfl⟩)))
theorem v_law_refused (z : Wd) (ok : Ok z) : ∀ ds M Q E, sp_law_refused z ds M Q E → t_law_refused z (pureE M Q E) (startA N_law_refused ds) M := (by exact HA.Wq.get : @HA.Wq (∀ ds M Q E, sp_law_refused z ds M Q E → t_law_refused z (pureE M Q E) (startA N_law_refused ds) M) (by
  intro ds M Q E ⟨x, s, ks, h, hd, hT, s1, s2, hk, ht, q⟩
  subst h
  have k24 := ok.k_24
  have r10 := ok.r_10
  have x1 := ok.x_10_10
  have hg1 : Any1 (wnL ks) := by unfold wnL; split <;> trivial
  walk_at "start"
  walk_at "r"
  intro bad hbad
  have hbad : Any1 bad ∧ szQ bad = false := by
    simp only [List.mem_cons, List.not_mem_nil, or_false] at hbad
    rcases hbad with rfl | rfl | rfl | rfl | rfl | rfl | rfl <;> exact ⟨trivial, rfl⟩
  obtain ⟨hb1, hb2⟩ := hbad
  walk_at "r"
  rename_i a ha
  refine c_Window___init__X z hb1 hb2 ?_
  walk_at "r"
  intro p hp
  have hpa : p ≠ a := fun e => by subst e; rw [mset_same] at hp; exact nomatch hp
  have hp0 : M p = none := by rw [mset_ne hpa] at hp; exact hp
  walk_at "r"
  refine c_window_ofS z hb1 trivial trivial hb2 ?_
  walk_at "r"
  simp only [List.cons_append, List.nil_append]
  have hle : MLe M (mset (mset M a (.ins (z.C 24) [])) p (.lst [.str "size", .str "size"])) := MLe.newM hp0 (MLe.new ha)
  have hP : mset (mset M a (.ins (z.C 24) [])) p (.lst [.str "size", .str "size"]) p = some (.lst [.str "size", .str "size"]) := mset_same
  generalize mset (mset M a (.ins (z.C 24) [])) p (.lst [.str "size", .str "size"]) = M6 at *
  have hT6 := hT.up hle
  have hd6 := hd.up hle
  walk_at "r"
  refine ⟨fun h => absurd h (by decide +kernel), fun _ => ?_⟩
  walk_at "r"
  intro wr hwr
  have hwr : Any1 wr ∧ cq wr = false ∧ wr ≠ .non := by
    have e7 : (2 : Int) ^ (Int.toNat 63) = 9223372036854775808 := by decide
    simp only [List.mem_cons, List.not_mem_nil, or_false, e7] at hwr
    rcases hwr with rfl | rfl | rfl | rfl | rfl | rfl <;> exact ⟨trivial, rfl, by intro e; exact nomatch e⟩
  obtain ⟨hw1, hw2, hw3⟩ := hwr
  walk_at "r"
  refine c_window_ofC z s1 s2 hw1 trivial hw3 hw2 ?_
  have hlen := blw_len (s := s) (ks := ks) (b := true)
  have ⟨m1, m2, m3⟩ := refused_menu s1 hk ht (show (blw s ks true).length ≤ 2000 by omega)
  have eneg : (-1 + ((blw s ks true).length : Int)).toNat = (blw s ks true).length - 1 := by omega
  have e63 : (2 : Int) ^ Int.toNat 63 = 9223372036854775808 := by decide
  generalize hhs : blw s ks true = hs at *
  walk_at "r"
  rw [eneg, e63]
  refine i_addt (xs := hs.map .int) (ys := [.bl true]) (sz_le (by simp; omega)) ?_
  have tl : ∀ (ys : List D), ys ≠ [] → ys.length < 100 → (∀ d ∈ ys, Any1 d ∧ NoH s (wnL ks) d) → t_law_refused_15 z (pureE M Q E) [some x, some (.int s), some (wnL ks), some (tI hs), some (.ref p), some (.lst ys), some bad, none, some wr] M6 := fun ys y0 yl hy => by
    unfold pureE
    walk_at "r"
    refine c_ofl hd6 y0 (by omega) fun d hdy => ?_
    obtain ⟨a1, a2⟩ := hy d hdy
    walk_at "r"
    refine c_window_ofH z s1 s2 hk a1 a2 ?_
    walk_at "r"
    exact q
  unfold pureE at tl
  obtain ⟨n1, n2, n3, n4, n5, n6, n7, n8, n9⟩ := m1 (wnL ks)
  by_cases h0 : ks = []
  · subst h0
    rw [wnL_nil] at *
    repeat ((fail_if_success (guard_target = t_law_refused_16 z _ _ _)); walk_at "s")
    unfold t_law_refused_16
    generalize t_law_refused_15 z = T at tl ⊢
    walk_at "r"
    refine tl _ (by simp) (by simp) fun d hdy => ?_
    have hdy : d ∈ [D.non, .tup [.non], tI [-1], .int 0, .str "", .tup (hs.map .int ++ [.bl true]), .tup [tI [], tI []], tI [0]] := hdy
    simp only [List.mem_cons, List.not_mem_nil, or_false] at hdy
    rcases hdy with rfl | rfl | rfl | rfl | rfl | rfl | rfl | rfl
    · exact ⟨trivial, n1⟩
    · exact ⟨trivial, n6⟩
    · exact ⟨trivial, n7⟩
    · exact ⟨trivial, n3⟩
    · exact ⟨trivial, n4⟩
    · exact ⟨trivial, n8⟩
    · exact ⟨trivial, n9⟩
    · exact ⟨trivial, m3⟩
  · obtain ⟨k1, k2, k3, k4, k5⟩ := m2 h0
    rw [wnL_some h0] at *
    repeat ((fail_if_success (guard_target = t_law_refused_16 z _ _ _)); walk_at "s")
    unfold t_law_refused_16
    generalize t_law_refused_15 z = T at tl ⊢
    have fin : ∀ e : D, Any1 e → NoH s (.int (top ks)) e → T { nx := fun x M' => MLe M M' ∧ Q D.non M, rt := fun d M' => fzD M M' d fun d' => Q d' M, xx := fun x C fs M' => MLe M M' ∧ E C fs M } [some x, some (.int s), some (.int (top ks)), some (tI hs), some (.ref p), some (.lst ([D.non, lI hs, tI (hs ++ hs.drop (hs.length - 1)), tI (hs.reverse ++ [9223372036854775808]), .tup [.non], tI [-1], .int 0, .str "", .tup (hs.map .int ++ [.bl true]), .tup [tI [], tI []]] ++ [tI [], e, tI (hs.take (hs.length - 1)), tI (hs ++ [top ks + 1])])), some bad, none, some wr] M6 := fun e he1 he2 => by
      refine tl _ (by simp) (by simp) fun d hdy => ?_
      simp only [List.cons_append, List.nil_append, List.mem_cons, List.not_mem_nil, or_false] at hdy
      rcases hdy with rfl | rfl | rfl | rfl | rfl | rfl | rfl | rfl | rfl | rfl | rfl | rfl | rfl | rfl
      · exact ⟨trivial, n1⟩
      · exact ⟨trivial, n2⟩
      · exact ⟨trivial, k1⟩
      · exact ⟨trivial, n5⟩
      · exact ⟨trivial, n6⟩
      · exact ⟨trivial, n7⟩
      · exact ⟨trivial, n3⟩
      · exact ⟨trivial, n4⟩
      · exact ⟨trivial, n8⟩
      · exact ⟨trivial, n9⟩
      · exact ⟨trivial, k2⟩
      · exact ⟨he1, he2⟩
      · exact ⟨trivial, k4⟩
      · exact ⟨trivial, k5⟩
    walk_at "r"
    refine br (fun h => ?_) (fun h => ?_)
    · walk_at "r"
      rw [eneg]
      walk_at "r"
      exact fin _ trivial (k3 h)
    · walk_at "r"
      rw [eneg]
      walk_at "r"
      exact fin _ trivial k2))
end K46
set_option maxHeartbeats 1000000
namespace K46
open PySem PySem.Spec L2 HA Sh
theorem c_law_next (z : Wd) {x : D} {s : Nat} {i : Int} {ks : List Int} {M : Mem} {Q : DK} {E : AX} (ei : i = s) (hd : Deal M x) (hk : Cnt ks) (h1 : 1 ≤ s) (h2 : s ≤ 2048) (hl : ks.length ≤ 1000) (q : ∀ c : Int, 0 ≤ c → c ≤ top ks + 1000010 → Q (.int c) M) : sp_law_next z [x, .int i, wnL ks, lI ks] M Q E := ⟨x, s, ks, by rw [ei], hd, hk, h1, h2, hl, q⟩
theorem c_law_held (z : Wd) {s : Nat} {ks : List Int} {M : Mem} {Q : DK} {E : AX} (hk : Cnt ks) (hn : ks.Nodup) (hl : ks.length ≤ 1000) (h1 : 1 ≤ s) (h2 : s ≤ 2048) (ht : top ks < 9223372036854775807) (q : Q (.tup [tI (blw s ks true), tI (blw s ks false)]) M) : sp_law_held z [.int s, lI ks] M Q E := ⟨s, ks, rfl, hk, hn, hl, h1, h2, ht, q⟩
theorem c_law_refused (z : Wd) {x : D} {s : Nat} {ks : List Int} {M : Mem} {Q : DK} {E : AX} (hd : Deal M x) (hT : TabM z M) (s1 : 1 ≤ s) (s2 : s ≤ 1024) (hk : Cnt ks) (ht : top ks < 9223372036854775807) (q : Q (.bl true) M) : sp_law_refused z [x, .int s, wnL ks, tI (blw s ks true)] M Q E := ⟨x, s, ks, rfl, hd, hT, s1, s2, hk, ht, q⟩
local macro_rules | `(tactic| walk_at "pre") => `(tactic| ((with_reducible apply Sh.i_top); (focus (exact rfl)); (focus assumption)))
theorem top_le {ks : List Int} {m : Int} (hk : Cnt ks) (h0 : -1 ≤ m) (h : ∀ k ∈ ks, k ≤ m) : top ks ≤ m := by
  by_cases he : ks = []
  · subst he; rw [top_nil]; exact h0
  · exact h _ (hk.top_mem he)
theorem step7 (z : Wd) {U : ASt} {nx : AS → Mem → Prop} {rt : DK} {bk ct : AS → Mem → Prop} {xx : AXs} {dl : Addr} {s : Nat} {ks : List Int} {b0 m : Int} {o0 o5 o6 o7 o8 o9 o10 o11 o12 o13 o14 o15 o16 : Option D} {M : Mem} (hd : Deal M (.ref dl)) (s1 : 1 ≤ s) (s2 : s ≤ 1024) (hb : 0 ≤ b0) (hk : ∀ k ∈ ks, b0 ≤ k ∧ k ≤ b0 + m) (hm : 0 ≤ m) (hmx : b0 + m < 9223372036854775808) (hl : ks.length ≤ 100)
    (h : ∀ (c : Int) (o7 : Option D), b0 ≤ c → c ≤ b0 + m + 1000010 → U ⟨nx, rt, bk, ct, xx⟩ [o0, some (.ref dl), some (.int s), some (lI ks), some (.int b0), o5, some (.int c), o7, o8, o9, o10, o11, o12, o13, o14, o15, o16] M) :
    aSeq (t_law_5 z) (aSeq (t_law_6 z) U) ⟨nx, rt, bk, ct, xx⟩ [o0, some (.ref dl), some (.int s), some (lI ks), some (.int b0), o5, o6, o7, o8, o9, o10, o11, o12, o13, o14, o15, o16] M := (by exact HA.Wq.get : @HA.Wq (aSeq (t_law_5 z) (aSeq (t_law_6 z) U) ⟨nx, rt, bk, ct, xx⟩ [o0, some (.ref dl), some (.int s), some (lI ks), some (.int b0), o5, o6, o7, o8, o9, o10, o11, o12, o13, o14, o15, o16] M) (by
  walk_at "r"
  refine lc_map (l := ks) (enc := .int) (f := fun c => .int (c - b0)) rfl (fun _ _ => trivial) (sz_le (by omega)) (fun c hc M' P N hM2 hP => ?_) ?_
  · walk_at "r"
    exact hP
  · have e2 : D.lst (ks.map fun c => D.int (c - b0)) = lI (ks.map fun c => c - b0) := by unfold lI; rw [List.map_map]; rfl
    rw [e2]
    have hc : Cnt (ks.map fun c => c - b0) := fun k hk2 => by
      obtain ⟨c, hc, rfl⟩ := List.mem_map.mp hk2
      have := hk c hc
      show 0 ≤ c - b0 ∧ c - b0 < 9223372036854775808
      omega
    have ht : top (ks.map fun c => c - b0) ≤ m := top_le hc (by omega) fun k hk2 => by
      obtain ⟨c, hc, rfl⟩ := List.mem_map.mp hk2
      have := hk c hc
      show c - b0 ≤ m
      omega
    have hl2 : (ks.map fun c => c - b0).length ≤ 100 := by rw [List.length_map]; exact hl
    generalize (ks.map fun c => c - b0) = hs at *
    walk_at "r"
    refine c_law_next z (s := min s 40) (by split <;> omega) hd hc (by omega) (by omega) (by omega) fun c c0 c1 => ?_
    walk_at "r"
    exact h _ _ (by omega) (by omega)))
theorem WnAt.up {z : Wd} {M M' : Mem} {a : Addr} {s : Nat} {ks : List Int} (w : WnAt z M a s ks) (h : MLe M M') : WnAt z M' a s ks := ⟨h _ _ w.at', w.s1, w.s2, w.cnt⟩
theorem mem_tk {s : Nat} {ks : List Int} {c k : Int} (h : k ∈ tk s ks c) : k ∈ ks ∨ k = c := (by exact HA.Wq.get : @HA.Wq (k ∈ ks ∨ k = c) (by
  unfold tk at h; split at h
  · rcases List.mem_append.mp h with h | h
    · exact .inl h
    · exact .inr (List.mem_singleton.mp h)
  · exact .inl h))
end K46
set_option maxHeartbeats 1000000
namespace K46
open PySem PySem.Spec L2 HA Sh
theorem law_tail (z : Wd) (ok : Ok z) {dl a : Addr} {s : Nat} {ks : List Int} {b0 : Int} {o0 o5 o6 o7 o8 o16 : Option D} {M : Mem} {Q : DK} {E : AX} (hd : Deal M (.ref dl)) (hT : TabM z M) (w : WnAt z M a s ks) (hn : ks.Nodup) (hl : ks.length ≤ 25) (hb0 : 0 ≤ b0) (hb1 : b0 ≤ 9223372036754775808) (hbd : ∀ k ∈ ks, b0 ≤ k ∧ k ≤ b0 + 25 * 1000010) (qq : ∀ M', Q (.bl true) M') :
    t_law_48 z (anyE Q E) [o0, some (.ref dl), some (.int s), some (lI ks), some (.int b0), o5, o6, o7, o8, some (wnL ks), some (tI (blw s ks true)), some (tI (blw s ks false)), none, none, none, some (.ref a), o16] M := (by exact HA.Wq.get : @HA.Wq (t_law_48 z (anyE Q E) [o0, some (.ref dl), some (.int s), some (lI ks), some (.int b0), o5, o6, o7, o8, some (wnL ks), some (tI (blw s ks true)), some (tI (blw s ks false)), none, none, none, some (.ref a), o16] M) (by
  have k24 := ok.k_24
  have r10 := ok.r_10
  have x1 := ok.x_10_10
  have hA := w.at'
  have hk := w.cnt
  have s1 := w.s1
  have s2 := w.s2
  have htp : top ks ≤ 9223372036754775808 + 26000000 := top_le hk (by omega) fun k hk2 => by have := hbd k hk2; omega
  have sm1 : SmallI (blw s ks true) := small_cnt fun c hc => by have := (mem_blw hk).mp hc; unfold wlo at this; omega
  have hbl := blw_len (s := s) (ks := ks) (b := true)
  unfold anyE
  walk_at "r"
  intro wr hwr
  have hwr : Any1 wr ∧ cq wr = false := by
    have e7 : (2 : Int) ^ (Int.toNat 63) = 9223372036854775808 := by decide
    simp only [List.mem_cons, List.not_mem_nil, or_false, e7] at hwr
    rcases hwr with rfl | rfl | rfl | rfl | rfl | rfl <;> exact ⟨trivial, rfl⟩
  obtain ⟨hw1, hw2⟩ := hwr
  walk_at "r"
  refine c_Window_takeX z w hw1 hw2 ?_
  walk_at "r"
  intro p hp
  have hpa : a ≠ p := fun e => by subst e; rw [hA] at hp; exact nomatch hp
  have wp : ∀ L, WnAt z (mset M p L) a s ks := fun L => WnAt.up w (MLe.new hp)
  have hAp : ∀ L, mset M p L a = some (wnC z s ks) := fun L => (wp L).at'
  have hT4 : TabM z (mset M p (.lst [.str "counter"])) := hT.up (MLe.new hp)
  have hA4 := hAp (.lst [.str "counter"])
  walk_at "r"
  refine c_Window_judgeX z (wp _) hw1 hw2 ?_
  walk_at "r"
  simp only [List.cons_append, List.nil_append]
  have w5 := wp (.lst [.str "counter", .str "counter"])
  have hA5 := w5.at'
  have hT5 : TabM z (mset M p (.lst [.str "counter", .str "counter"])) := hT.up (MLe.new hp)
  have hd5 : Deal (mset M p (.lst [.str "counter", .str "counter"])) (.ref dl) := hd.up (MLe.new hp)
  have hP5 : mset M p (.lst [.str "counter", .str "counter"]) p = some (.lst [.str "counter", .str "counter"]) := mset_same
  generalize mset M p (.lst [.str "counter", .str "counter"]) = M5 at *
  obtain ⟨pp, np, hpp, hpn⟩ := pw_wnL hk (M := M5)
  walk_at "r"
  refine ⟨fun h => absurd h (by decide +kernel), fun _ => ?_⟩
  walk_at "r"
  refine c_Window_greatest z hA5 ?_
  walk_at "r"
  refine c_Window_held z w5 (by omega) ?_
  walk_at "r"
  refine c_window_of z s1 s2 hk fun b hb => ?_
  have hab : a ≠ b := fun e => by subst e; rw [hA5] at hb; exact nomatch hb
  have w6 : WnAt z (mset M5 b (wnC z s ks)) a s ks := WnAt.up w5 (MLe.new hb)
  have v6 : WnAt z (mset M5 b (wnC z s ks)) b s ks := ⟨mset_same, s1, s2, hk⟩
  have hT6 : TabM z (mset M5 b (wnC z s ks)) := hT5.up (MLe.new hb)
  have hd6 : Deal (mset M5 b (wnC z s ks)) (.ref dl) := hd5.up (MLe.new hb)
  generalize mset M5 b (wnC z s ks) = M6 at *
  walk_at "r"
  refine for_range (n := 6) (fun i σ M' => ∃ (ls : List Int) (o5 o6 o7 o14 : Option D), (Deal M' (.ref dl) ∧ TabM z M' ∧ WnAt z M' a s ls ∧ WnAt z M' b s ls) ∧ (ls.length ≤ 25 + i ∧ ∀ k ∈ ls, b0 ≤ k ∧ k ≤ b0 + (25 + i) * 1000010) ∧
      σ = [o0, some (.ref dl), some (.int s), some (lI ls), some (.int b0), o5, o6, o7, o8, some (wnL ks), some (tI (blw s ks true)), some (tI (blw s ks false)), some (.ref p), some (.ref b), o14, some (.ref a), some wr]) (by decide) ?_ ?_ ?_
  · exact ⟨ks, _, _, _, _, ⟨hd6, hT6, w6, v6⟩, ⟨by omega, fun k hk2 => by have := hbd k hk2; omega⟩, rfl⟩
  · rintro i hi σ M' ⟨ls, o5, o6, o7, o14, ⟨hd, hT, w, v⟩, ⟨hlk, hbd⟩, rfl⟩
    have hA := w.at'
    have hB := v.at'
    have hk := w.cnt
    refine ⟨trivial, ?_⟩
    walk_at "s"
    refine step7 z hd s1 s2 hb0 hbd (by omega) (by omega) (by omega) fun c o7 c0 c1 => ?_
    walk_at "r"
    refine c_law_word z hk (by omega) ?_
    obtain ⟨ly1, ly2⟩ := wrd_lay s ls c
    walk_at "r"
    refine c_Window_judge z w (by omega) (by omega) ?_
    walk_at "r"
    refine c_Window_judge z v (by omega) (by omega) ?_
    walk_at "r"
    refine c_Window_take z w (by omega) (by omega) ?_
    walk_at "r"
    refine c_Window_take z (ks := ls) ⟨by rw [mset_ne hab.symm]; exact hB, s1, s2, hk⟩ (by omega) (by omega) ?_
    rw [← new_eq]
    have hk2 : Cnt (tk s ls c) := tk_cnt hk ⟨by omega, by omega⟩
    have w2 : WnAt z (mset (mset M' a (wnC z s (tk s ls c))) b (wnC z s (tk s ls c))) a s (tk s ls c) := ⟨by rw [mset_ne hab, mset_same], s1, s2, hk2⟩
    have v2 : WnAt z (mset (mset M' a (wnC z s (tk s ls c))) b (wnC z s (tk s ls c))) b s (tk s ls c) := ⟨mset_same, s1, s2, hk2⟩
    have hd2 : Deal (mset (mset M' a (wnC z s (tk s ls c))) b (wnC z s (tk s ls c))) (.ref dl) := (hd.ins hA).ins (by rw [mset_ne hab.symm]; exact hB)
    have hT2 : TabM z (mset (mset M' a (wnC z s (tk s ls c))) b (wnC z s (tk s ls c))) := (hT.ins hA).ins (by rw [mset_ne hab.symm]; exact hB)
    have hl2 := tk_len (s := s) (c := c) hlk
    have hbd2 : ∀ k ∈ tk s ls c, b0 ≤ k ∧ k ≤ b0 + (25 + ((i + 1 : Nat) : Int)) * 1000010 := fun k hk2 => by
      rcases mem_tk hk2 with h | rfl
      · have := hbd k h; omega
      · omega
    generalize mset (mset M' a (wnC z s (tk s ls c))) b (wnC z s (tk s ls c)) = M7 at *
    rcases wrd_eq (s := s) (ks := ls) (c := c) with ⟨e1, e2, e3, e4⟩ | ⟨e1, e2⟩
    · have et : tk s ls c = ls ++ [c] := by unfold tk; rw [e2, if_pos rfl]
      rw [et] at w2 v2 hl2 hbd2
      walk_at "r"
      exact ⟨ls ++ [c], _, _, _, _, ⟨hd2, hT2, w2, v2⟩, ⟨by omega, hbd2⟩, rfl⟩
    · have et : tk s ls c = ls := by unfold tk; rw [e2, if_neg (by decide)]
      rw [et] at w2 v2 hl2 hbd2
      walk_at "r"
      exact ⟨ls, _, _, _, _, ⟨hd2, hT2, w2, v2⟩, ⟨by omega, hbd2⟩, rfl⟩
  · rintro σ M' ⟨ls, o5, o6, o7, o14, ⟨hd, hT, w, v⟩, ⟨hlk, hbd⟩, rfl⟩
    have hA := w.at'
    have hB := v.at'
    have hk := w.cnt
    have htp2 : top ls ≤ 9223372036754775808 + 32000000 := top_le hk (by omega) fun k hk2 => by have := hbd k hk2; omega
    have sm2 : SmallI (blw s ls true) := small_cnt fun c hc => by have := (mem_blw hk).mp hc; unfold wlo at this; omega
    have hbl2 := blw_len (s := s) (ks := ls) (b := true)
    obtain ⟨p2, n2, hp2, hpn2⟩ := pw_wnL hk (M := M')
    refine ⟨trivial, ?_⟩
    walk_at "r"
    refine c_Window_held z v (by omega) ?_
    walk_at "r"
    refine c_Window_greatest z hB ?_
    walk_at "r"
    refine c_Window_held z w (by omega) ?_
    walk_at "r"
    refine c_Window_greatest z hA ?_
    walk_at "r"
    refine c_law_refused z hd hT s1 s2 w5.cnt (by omega) ?_
    walk_at "r"
    exact ⟨_, .refl _, qq _⟩))
end K46
set_option maxHeartbeats 1000000
namespace K46
open PySem PySem.Spec L2 HA Sh
local macro_rules | `(tactic| walk_at "pre") => `(tactic| ((with_reducible apply Sh.i_top); (focus (exact rfl)); (focus assumption)))
theorem v_law (z : Wd) (ok : Ok z) : ∀ ds M Q E, sp_law z ds M Q E → t_law z (anyE Q E) (startA N_law ds) M := (by exact HA.Wq.get : @HA.Wq (∀ ds M Q E, sp_law z ds M Q E → t_law z (anyE Q E) (startA N_law ds) M) (by
  intro ds M Q E ⟨cells, h, hl, hb, hT, qq⟩
  subst h
  have k24 := ok.k_24
  have r10 := ok.r_10
  have x1 := ok.x_10_10
  walk_at "start"
  walk_at "r"
  refine ⟨cells, 0, rfl, hl, hb, ⟨by decide, by decide⟩, fun dl M1 hM1 hdl0 hdl => ?_⟩
  have hT1 := hT.up hM1
  walk_at "r"
  intro r r0 r1
  walk_at "r"
  intro s0 hs0
  obtain ⟨s, rfl, s1, s2⟩ : ∃ s : Nat, s0 = (s : Int) ∧ 1 ≤ s ∧ s ≤ 1024 := by
    simp only [List.mem_cons, List.not_mem_nil, or_false] at hs0
    exact ⟨s0.toNat, by omega, by omega, by omega⟩
  walk_at "r"
  rename_i a ha
  refine c_Window___init__ z s1 s2 ?_
  have hd0 : Deal (mset M1 a (wnC z s [])) (.ref dl) := hdl.new ha
  have hT0 : TabM z (mset M1 a (wnC z s [])) := hT1.up (MLe.new ha)
  have w0 : WnAt z (mset M1 a (wnC z s [])) a s [] := ⟨mset_same, s1, s2, Cnt.nil⟩
  generalize mset M1 a (wnC z s []) = M2 at *
  walk_at "r"
  intro b0 hb0
  have hb0 : 0 ≤ b0 ∧ b0 ≤ 9223372036754775808 := by
    have e7 : (2 : Int) ^ (Int.toNat 63) - 10 ^ (Int.toNat 8) = 9223372036754775808 := by decide
    simp only [List.mem_cons, List.not_mem_nil, or_false, e7] at hb0
    omega
  walk_at "r"
  intro m0 m00 m01
  walk_at "r"
  refine for_range (n := m0.toNat) (fun i σ M' => ∃ (ks : List Int) (o5 o6 o7 o8 : Option D), (Deal M' (.ref dl) ∧ TabM z M' ∧ WnAt z M' a s ks) ∧ (ks.Nodup ∧ ks.length ≤ i ∧ ∀ k ∈ ks, b0 ≤ k ∧ k ≤ b0 + i * 1000010) ∧
      σ = [some (.frz (cells.map .int)), some (.ref dl), some (.int s), some (lI ks), some (.int b0), o5, o6, o7, o8, none, none, none, none, none, none, some (.ref a), none]) (by omega) ?_ ?_ ?_
  · exact ⟨[], _, _, _, _, ⟨hd0, hT0, w0⟩, ⟨List.nodup_nil, by simp, fun k hk => nomatch hk⟩, rfl⟩
  · rintro i hi σ M' ⟨ks, o5, o6, o7, o8, ⟨hd, hT, w⟩, ⟨hn, hlk, hbd⟩, rfl⟩
    have hA := w.at'
    have hk := w.cnt
    refine ⟨trivial, ?_⟩
    walk_at "s"
    refine step7 z hd s1 s2 hb0.1 hbd (by omega) (by omega) (by omega) fun c o7 c0 c1 => ?_
    walk_at "r"
    refine c_law_word z hk (by omega) ?_
    walk_at "r"
    refine c_Window_take z w (by omega) (by omega) ?_
    rw [new_eq]
    have w2 : WnAt z (mset M' a (wnC z s (tk s ks c))) a s (tk s ks c) := ⟨mset_same, s1, s2, tk_cnt hk ⟨by omega, by omega⟩⟩
    have hd2 : Deal (mset M' a (wnC z s (tk s ks c))) (.ref dl) := hd.ins hA
    have hT2 : TabM z (mset M' a (wnC z s (tk s ks c))) := hT.ins hA
    have hn2 : (tk s ks c).Nodup := tk_nodup hn
    have hl2 := tk_len (s := s) (c := c) hlk
    have hbd2 : ∀ k ∈ tk s ks c, b0 ≤ k ∧ k ≤ b0 + ((i + 1 : Nat) : Int) * 1000010 := fun k hk2 => by
      rcases mem_tk hk2 with h | rfl
      · have := hbd k h; omega
      · omega
    cases hnw : isNew s ks c with
    | false =>
      have et : tk s ks c = ks := by unfold tk; rw [hnw]; rfl
      rw [et] at w2 hd2 hT2 hn2 hl2 hbd2 ⊢
      walk_at "r"
      exact ⟨ks, _, _, _, _, ⟨hd2, hT2, w2⟩, ⟨hn2, hl2, hbd2⟩, rfl⟩
    | true =>
      have et : tk s ks c = ks ++ [c] := by unfold tk; rw [hnw]; rfl
      rw [et] at w2 hd2 hT2 hn2 hl2 hbd2 ⊢
      walk_at "r"
      exact ⟨ks ++ [c], _, _, _, _, ⟨hd2, hT2, w2⟩, ⟨hn2, hl2, hbd2⟩, rfl⟩
  · rintro σ M' ⟨ks, o5, o6, o7, o8, ⟨hd, hT, w⟩, ⟨hn, hlk, hbd⟩, rfl⟩
    have hA := w.at'
    have hk := w.cnt
    have htp : top ks ≤ 9223372036754775808 + 26000000 := top_le hk (by omega) fun k hk2 => by have := hbd k hk2; omega
    have sm1 : SmallI (blw s ks true) := small_cnt fun c hc => by have := (mem_blw hk).mp hc; unfold wlo at this; omega
    have sm2 : SmallI (blw s ks false) := small_cnt fun c hc => by have := (mem_blw hk).mp hc; unfold wlo at this; omega
    have hbl := blw_len (s := s) (ks := ks) (b := true)
    have hbl2 := blw_len (s := s) (ks := ks) (b := false)
    obtain ⟨p, n, hp, hpn⟩ := pw_wnL hk (M := M')
    refine ⟨trivial, ?_⟩
    walk_at "r"
    refine c_law_held z hk hn (by omega) s1 (by omega) (by omega) ?_
    walk_at "r"
    refine c_Window_greatest z hA ?_
    walk_at "r"
    refine c_Window_held z w (by omega) ?_
    have tl19 := law_tail z ok (o0 := some (.frz (cells.map .int))) (o5 := o5) (o6 := o6) (o7 := o7) (o8 := o8) (o16 := none) (E := E) hd hT w hn (show ks.length ≤ 25 by omega) hb0.1 hb0.2 (fun k hk2 => by have := hbd k hk2; omega) qq
    unfold anyE at tl19
    generalize t_law_48 z = T at tl19 ⊢
    walk_at "r"
    refine br (fun h => ?_) (fun h => ?_)
    · walk_at "r"
      refine c_Window_missing z w (by omega) ?_
      walk_at "r"
      exact tl19
    · walk_at "r"
      exact tl19))
end K46
/-! the end (printed by gen4.py) -/
namespace K46
open PySem PySem.Spec L2 HA
theorem all_mz {P : Program} {w : World} (z : Wd) {h : Heap} {mg : Str → Option Value} {fa : Addr} (XK : z.K.In h) (Gn : h.Ns mainGlobals mg) (hfa : mg "law" = some (.ref fa))
    {N_InvalidSize : Addr} {nm_InvalidSize q_InvalidSize : Str} {bs_InvalidSize sub_InvalidSize : List Value} {sn_InvalidSize : List Str} {ab_InvalidSize : Bool} {col_InvalidSize : Option Bool} {dd_InvalidSize : Option Addr} {k0_InvalidSize k1_InvalidSize k2_InvalidSize k3_InvalidSize k5_InvalidSize : Option Value}
    {N_TunnelError : Addr} {nm_TunnelError q_TunnelError : Str} {bs_TunnelError sub_TunnelError : List Value} {sn_TunnelError : List Str} {ab_TunnelError : Bool} {col_TunnelError : Option Bool} {dd_TunnelError : Option Addr} {k0_TunnelError k1_TunnelError k2_TunnelError k3_TunnelError k5_TunnelError : Option Value}
    {fE_InvalidSize cda_InvalidSize cc_InvalidSize : Addr} {oc_InvalidSize kV_InvalidSize dc_InvalidSize pm_InvalidSize ct_InvalidSize ccl_InvalidSize cl_InvalidSize : Value} {od_InvalidSize an_InvalidSize cdd_InvalidSize cld_InvalidSize : Option Addr} {osl_InvalidSize ccs_InvalidSize csl_InvalidSize : Array (Option Value)} {vs_InvalidSize : Array Value} {file_InvalidSize : Str} {tf_InvalidSize : Tok}
    {uI_COUNTERS : Tok}
    {uI_MOST_SIZE : Tok}
    {f0 : Addr} {od0 an0 : Option Addr} {sl0 : Array (Option Value)} {oc0 kV0 dc0 pm0 cd0 ct0 : Value}
    {f1 : Addr} {od1 an1 : Option Addr} {sl1 : Array (Option Value)} {oc1 kV1 dc1 pm1 cd1 ct1 : Value}
    {f2 : Addr} {od2 an2 : Option Addr} {sl2 : Array (Option Value)} {oc2 kV2 dc2 pm2 cd2 ct2 : Value}
    {f3 : Addr} {od3 an3 : Option Addr} {sl3 : Array (Option Value)} {oc3 kV3 dc3 pm3 cd3 ct3 : Value}
    {f4 : Addr} {od4 an4 : Option Addr} {sl4 : Array (Option Value)} {oc4 kV4 dc4 pm4 cd4 ct4 : Value}
    {f5 : Addr} {od5 an5 : Option Addr} {sl5 : Array (Option Value)} {oc5 kV5 dc5 pm5 cd5 ct5 : Value}
    {f6 : Addr} {od6 an6 : Option Addr} {sl6 : Array (Option Value)} {oc6 kV6 dc6 pm6 cd6 ct6 : Value}
    {f7 : Addr} {od7 an7 : Option Addr} {sl7 : Array (Option Value)} {oc7 kV7 dc7 pm7 cd7 ct7 : Value}
    {f8 : Addr} {od8 an8 : Option Addr} {sl8 : Array (Option Value)} {oc8 kV8 dc8 pm8 cd8 ct8 : Value}
    {f9 : Addr} {od9 an9 : Option Addr} {sl9 : Array (Option Value)} {oc9 kV9 dc9 pm9 cd9 ct9 : Value}
    {f10 : Addr} {od10 an10 : Option Addr} {sl10 : Array (Option Value)} {oc10 kV10 dc10 pm10 cd10 ct10 : Value}
    {f11 : Addr} {od11 an11 : Option Addr} {sl11 : Array (Option Value)} {oc11 kV11 dc11 pm11 cd11 ct11 : Value}
    {f12 : Addr} {od12 an12 : Option Addr} {sl12 : Array (Option Value)} {oc12 kV12 dc12 pm12 cd12 ct12 : Value}
    {f13 : Addr} {od13 an13 : Option Addr} {sl13 : Array (Option Value)} {oc13 kV13 dc13 pm13 cd13 ct13 : Value}
    {f14 : Addr} {od14 an14 : Option Addr} {sl14 : Array (Option Value)} {oc14 kV14 dc14 pm14 cd14 ct14 : Value}
    {f15 : Addr} {od15 an15 : Option Addr} {sl15 : Array (Option Value)} {oc15 kV15 dc15 pm15 cd15 ct15 : Value}
    {f16 : Addr} {od16 an16 : Option Addr} {sl16 : Array (Option Value)} {oc16 kV16 dc16 pm16 cd16 ct16 : Value}
    {f17 : Addr} {od17 an17 : Option Addr} {sl17 : Array (Option Value)} {oc17 kV17 dc17 pm17 cd17 ct17 : Value}
    {f18 : Addr} {od18 an18 : Option Addr} {sl18 : Array (Option Value)} {oc18 kV18 dc18 pm18 cd18 ct18 : Value}
    {f19 : Addr} {od19 an19 : Option Addr} {sl19 : Array (Option Value)} {oc19 kV19 dc19 pm19 cd19 ct19 : Value}
    {f20 : Addr} {od20 an20 : Option Addr} {sl20 : Array (Option Value)} {oc20 kV20 dc20 pm20 ct20 : Value}
    {cc20 pt20 : Addr} {tcl20 : Value} {tdd20 : Option Addr} {tvs20 : Array Value} {tsl20 : Array (Option Value)}
    {f21 : Addr} {od21 an21 : Option Addr} {sl21 : Array (Option Value)} {oc21 kV21 dc21 pm21 ct21 : Value}
    {cc21 pt21 : Addr} {tcl21 : Value} {tdd21 : Option Addr} {tvs21 : Array Value} {tsl21 : Array (Option Value)}
    (aC_Window : PySem.W.nsIn z.K mainGlobals "Window" = some (some (.ref (z.C 24))))
    (pg_Window : PySem.W.plainGet z.K (z.C 24) Str.empty = true)
    (hd_Window : PySem.W.hasDictIn z.K (z.C 24) = true)
    (po_Window : PySem.W.plainOver z.K (z.C 24) = true)
    (sa_Window : PySem.W.findIn z.K (.ref (z.C 24)) "__setattr__" = some (some (.builtin "object.__setattr__")))
    (mk_Window : PySem.W.makesIn z.K (z.C 24) = true)
    (kc_Window : PySem.W.keepIn z.K (.ref (z.C 24)) = true)
    (n_Window_size : PySem.W.findIn z.K (.ref (z.C 24)) "size" = some none)
    (n_Window__last : PySem.W.findIn z.K (.ref (z.C 24)) "_last" = some none)
    (n_Window__bits : PySem.W.findIn z.K (.ref (z.C 24)) "_bits" = some none)
    (aX_InvalidSize : PySem.W.nsIn z.K mainGlobals "InvalidSize" = some (some (.ref (z.C 10))))
    (aX_TunnelError : PySem.W.nsIn z.K mainGlobals "TunnelError" = some (some (.ref (z.C 0))))
    (lX_InvalidSize : z.K.lookup (z.C 10) = some (excClassObj nm_InvalidSize q_InvalidSize (z.C 10) N_InvalidSize bs_InvalidSize (.ref (z.C 0) :: ESX.exTail) true sn_InvalidSize sub_InvalidSize ab_InvalidSize col_InvalidSize dd_InvalidSize k0_InvalidSize k1_InvalidSize k2_InvalidSize k3_InvalidSize k5_InvalidSize "Exception.__new__"))
    (lX_TunnelError : z.K.lookup (z.C 0) = some (excClassObj nm_TunnelError q_TunnelError (z.C 0) N_TunnelError bs_TunnelError (ESX.exTail) true sn_TunnelError sub_TunnelError ab_TunnelError col_TunnelError dd_TunnelError k0_TunnelError k1_TunnelError k2_TunnelError k3_TunnelError k5_TunnelError "Exception.__new__"))
    (ex_InvalidSize : PySem.W.subIn z.K (.ref (z.C 10)) (.type "BaseException") = some true)
    (ic_InvalidSize : PySem.W.isClsIn z.K (z.C 10) = true)
    (ty_InvalidSize : PySem.W.typeIn z.K (.ref (z.C 10)) = some (.type "type"))
    (ss_InvalidSize : PySem.W.subIn z.K (.ref (z.C 10)) (.ref (z.C 10)) = some true)
    (ex_TunnelError : PySem.W.subIn z.K (.ref (z.C 0)) (.type "BaseException") = some true)
    (ic_TunnelError : PySem.W.isClsIn z.K (z.C 0) = true)
    (ty_TunnelError : PySem.W.typeIn z.K (.ref (z.C 0)) = some (.type "type"))
    (ss_TunnelError : PySem.W.subIn z.K (.ref (z.C 0)) (.ref (z.C 0)) = some true)
    (th : PySem.W.nsIn z.K PySem.cStatics "thirdparty.any" = some none)
    (su : PySem.W.nsIn z.K mainGlobals "super" = some none)
    (tp : (P.main.scope.names.lookup ("super" : Str)).isSome = false)
    (gs : PySem.W.specialIn z.K (.builtin "object.__class__") "__get__" = some (some (.builtin "getset_descriptor.__get__")))
    (tk : PySem.W.takesIn z.K (.builtin "object.__class__") = some true)
    (saX_InvalidSize : PySem.W.findIn z.K (.ref (z.C 10)) "__setattr__" = some (some (.builtin "object.__setattr__")))
    (gaX_InvalidSize : PySem.W.findIn z.K (.ref (z.C 10)) "__getattribute__" = some (some (.builtin "BaseException.__getattribute__")))
    (ggX_InvalidSize : PySem.W.findIn z.K (.ref (z.C 10)) "__getattr__" = some none)
    (noX_InvalidSize : PySem.W.findIn z.K (.ref (z.C 10)) "word" = some none)
    (iX_InvalidSize : PySem.W.findIn z.K (.ref (z.C 10)) "__init__" = some (some (.ref fE_InvalidSize)))
    (tX_InvalidSize : PySem.W.typeIn z.K (.ref fE_InvalidSize) = some (.type "function"))
    (kX_InvalidSize : PySem.W.keepIn z.K (.ref (z.C 10)) = true)
    (eeX_InvalidSize : PySem.W.subIn z.K (.ref (z.C 10)) (.type "Exception") = some true)
    (hdX_InvalidSize : PySem.W.hasDictIn z.K (z.C 10) = true)
    (ccX_InvalidSize : PySem.W.findIn z.K (.ref (z.C 10)) "__class__" = some (some (.builtin "object.__class__")))
    (obX_InvalidSize : PySem.W.mroIn z.K (z.C 10) (.type "object") = some true)
    (fX_InvalidSize : z.K.lookup fE_InvalidSize = some ⟨oc_InvalidSize, od_InvalidSize, .func (PySem.W.fnX "__init__" "InvalidSize.__init__" (eA "word" ⟨6, 17, 6, 21⟩ ⟨6, 23, 6, 27⟩) (eB "word" ⟨7, 8, 7, 13⟩ ⟨7, 8, 7, 15⟩ ⟨7, 8, 7, 24⟩ ⟨7, 25, 7, 29⟩ ⟨7, 8, 7, 30⟩ ⟨7, 8, 7, 30⟩ ⟨8, 8, 8, 12⟩ ⟨8, 8, 8, 17⟩ ⟨8, 20, 8, 24⟩ ⟨8, 8, 8, 24⟩) (eS "word") [("__class__", cc_InvalidSize)] .none kV_InvalidSize dc_InvalidSize pm_InvalidSize an_InvalidSize (.ref cda_InvalidSize) ct_InvalidSize), osl_InvalidSize⟩)
    (cX_InvalidSize : PySem.W.codeIn z.K (.ref cda_InvalidSize) "InvalidSize.__init__" = true)
    (dX_InvalidSize : z.K.lookup cda_InvalidSize = some ⟨ccl_InvalidSize, cdd_InvalidSize, .fields vs_InvalidSize, ccs_InvalidSize⟩)
    (vX_InvalidSize : vs_InvalidSize[2]? = some (.str file_InvalidSize tf_InvalidSize))
    (flX_InvalidSize : ((P.main.file : Str) == file_InvalidSize) = true)
    (ceX_InvalidSize : z.K.lookup cc_InvalidSize = some ⟨cl_InvalidSize, cld_InvalidSize, .cell (some (.ref (z.C 10))), csl_InvalidSize⟩)
    (bi_TunnelError : PySem.W.findIn z.K (.ref (z.C 0)) "__init__" = some (some (.builtin "Exception.__init__")))
    (aI_COUNTERS : PySem.W.nsIn z.K mainGlobals "COUNTERS" = some (some (.int 9223372036854775808 uI_COUNTERS)))
    (aI_MOST_SIZE : PySem.W.nsIn z.K mainGlobals "MOST_SIZE" = some (some (.int 1024 uI_MOST_SIZE)))
    (a0 : PySem.W.nsIn z.K mainGlobals "_law_deal" = some (some (.ref f0)))
    (l0 : z.K.lookup f0 = some ⟨oc0, od0, .func (PySem.W.fnOf "_law_deal" "_law_deal" (defArgs st_law_deal) (defBody st_law_deal) (defScope st_law_deal) .none kV0 dc0 pm0 an0 cd0 ct0), sl0⟩)
    (c0 : PySem.W.codeIn z.K cd0 "_law_deal" = true)
    (k0 : PySem.W.keepIn z.K (.ref f0) = true)
    (a1 : PySem.W.nsIn z.K mainGlobals "_law_draw" = some (some (.ref f1)))
    (l1 : z.K.lookup f1 = some ⟨oc1, od1, .func (PySem.W.fnOf "_law_draw" "_law_draw" (defArgs st_law_draw) (defBody st_law_draw) (defScope st_law_draw) .none kV1 dc1 pm1 an1 cd1 ct1), sl1⟩)
    (c1 : PySem.W.codeIn z.K cd1 "_law_draw" = true)
    (k1 : PySem.W.keepIn z.K (.ref f1) = true)
    (a2 : PySem.W.nsIn z.K mainGlobals "_law_pick" = some (some (.ref f2)))
    (l2 : z.K.lookup f2 = some ⟨oc2, od2, .func (PySem.W.fnOf "_law_pick" "_law_pick" (defArgs st_law_pick) (defBody st_law_pick) (defScope st_law_pick) .none kV2 dc2 pm2 an2 cd2 ct2), sl2⟩)
    (c2 : PySem.W.codeIn z.K cd2 "_law_pick" = true)
    (k2 : PySem.W.keepIn z.K (.ref f2) = true)
    (a3 : PySem.W.nsIn z.K mainGlobals "is_integer" = some (some (.ref f3)))
    (l3 : z.K.lookup f3 = some ⟨oc3, od3, .func (PySem.W.fnOf "is_integer" "is_integer" (defArgs st_is_integer) (defBody st_is_integer) (defScope st_is_integer) .none kV3 dc3 pm3 an3 cd3 ct3), sl3⟩)
    (c3 : PySem.W.codeIn z.K cd3 "is_integer" = true)
    (k3 : PySem.W.keepIn z.K (.ref f3) = true)
    (a4 : PySem.W.nsIn z.K mainGlobals "need_size" = some (some (.ref f4)))
    (l4 : z.K.lookup f4 = some ⟨oc4, od4, .func (PySem.W.fnOf "need_size" "need_size" (defArgs st_need_size) (defBody st_need_size) (defScope st_need_size) .none kV4 dc4 pm4 an4 cd4 ct4), sl4⟩)
    (c4 : PySem.W.codeIn z.K cd4 "need_size" = true)
    (k4 : PySem.W.keepIn z.K (.ref f4) = true)
    (a5 : PySem.W.findIn z.K (.ref (z.C 24)) "__init__" = some (some (.ref f5)))
    (i5 : PySem.W.isFn z.K (.ref f5) = true)
    (l5 : z.K.lookup f5 = some ⟨oc5, od5, .func (PySem.W.fnOf "__init__" "Window.__init__" (defArgs st_Window___init__) (defBody st_Window___init__) (defScope st_Window___init__) .none kV5 dc5 pm5 an5 cd5 ct5), sl5⟩)
    (c5 : PySem.W.codeIn z.K cd5 "Window.__init__" = true)
    (k5 : PySem.W.keepIn z.K (.ref f5) = true)
    (a6 : PySem.W.nsIn z.K mainGlobals "_law_next" = some (some (.ref f6)))
    (l6 : z.K.lookup f6 = some ⟨oc6, od6, .func (PySem.W.fnOf "_law_next" "_law_next" (defArgs st_law_next) (defBody st_law_next) (defScope st_law_next) .none kV6 dc6 pm6 an6 cd6 ct6), sl6⟩)
    (c6 : PySem.W.codeIn z.K cd6 "_law_next" = true)
    (k6 : PySem.W.keepIn z.K (.ref f6) = true)
    (a7 : PySem.W.nsIn z.K mainGlobals "_law_word" = some (some (.ref f7)))
    (l7 : z.K.lookup f7 = some ⟨oc7, od7, .func (PySem.W.fnOf "_law_word" "_law_word" (defArgs st_law_word) (defBody st_law_word) (defScope st_law_word) .none kV7 dc7 pm7 an7 cd7 ct7), sl7⟩)
    (c7 : PySem.W.codeIn z.K cd7 "_law_word" = true)
    (k7 : PySem.W.keepIn z.K (.ref f7) = true)
    (a8 : PySem.W.nsIn z.K mainGlobals "is_counter" = some (some (.ref f8)))
    (l8 : z.K.lookup f8 = some ⟨oc8, od8, .func (PySem.W.fnOf "is_counter" "is_counter" (defArgs st_is_counter) (defBody st_is_counter) (defScope st_is_counter) .none kV8 dc8 pm8 an8 cd8 ct8), sl8⟩)
    (c8 : PySem.W.codeIn z.K cd8 "is_counter" = true)
    (k8 : PySem.W.keepIn z.K (.ref f8) = true)
    (a9 : PySem.W.nsIn z.K mainGlobals "need_counter" = some (some (.ref f9)))
    (l9 : z.K.lookup f9 = some ⟨oc9, od9, .func (PySem.W.fnOf "need_counter" "need_counter" (defArgs st_need_counter) (defBody st_need_counter) (defScope st_need_counter) .none kV9 dc9 pm9 an9 cd9 ct9), sl9⟩)
    (c9 : PySem.W.codeIn z.K cd9 "need_counter" = true)
    (k9 : PySem.W.keepIn z.K (.ref f9) = true)
    (a10 : PySem.W.findIn z.K (.ref (z.C 24)) "judge" = some (some (.ref f10)))
    (i10 : PySem.W.isFn z.K (.ref f10) = true)
    (l10 : z.K.lookup f10 = some ⟨oc10, od10, .func (PySem.W.fnOf "judge" "Window.judge" (defArgs st_Window_judge) (defBody st_Window_judge) (defScope st_Window_judge) .none kV10 dc10 pm10 an10 cd10 ct10), sl10⟩)
    (c10 : PySem.W.codeIn z.K cd10 "Window.judge" = true)
    (k10 : PySem.W.keepIn z.K (.ref f10) = true)
    (a11 : PySem.W.findIn z.K (.ref (z.C 24)) "take" = some (some (.ref f11)))
    (i11 : PySem.W.isFn z.K (.ref f11) = true)
    (l11 : z.K.lookup f11 = some ⟨oc11, od11, .func (PySem.W.fnOf "take" "Window.take" (defArgs st_Window_take) (defBody st_Window_take) (defScope st_Window_take) .none kV11 dc11 pm11 an11 cd11 ct11), sl11⟩)
    (c11 : PySem.W.codeIn z.K cd11 "Window.take" = true)
    (k11 : PySem.W.keepIn z.K (.ref f11) = true)
    (a12 : PySem.W.nsIn z.K mainGlobals "_law_held" = some (some (.ref f12)))
    (l12 : z.K.lookup f12 = some ⟨oc12, od12, .func (PySem.W.fnOf "_law_held" "_law_held" (defArgs st_law_held) (defBody st_law_held) (defScope st_law_held) .none kV12 dc12 pm12 an12 cd12 ct12), sl12⟩)
    (c12 : PySem.W.codeIn z.K cd12 "_law_held" = true)
    (k12 : PySem.W.keepIn z.K (.ref f12) = true)
    (a13 : PySem.W.findIn z.K (.ref (z.C 24)) "greatest" = some (some (.ref f13)))
    (i13 : PySem.W.isFn z.K (.ref f13) = true)
    (l13 : z.K.lookup f13 = some ⟨oc13, od13, .func (PySem.W.fnOf "greatest" "Window.greatest" (defArgs st_Window_greatest) (defBody st_Window_greatest) (defScope st_Window_greatest) .none kV13 dc13 pm13 an13 cd13 ct13), sl13⟩)
    (c13 : PySem.W.codeIn z.K cd13 "Window.greatest" = true)
    (k13 : PySem.W.keepIn z.K (.ref f13) = true)
    (a14 : PySem.W.findIn z.K (.ref (z.C 24)) "_below" = some (some (.ref f14)))
    (i14 : PySem.W.isFn z.K (.ref f14) = true)
    (l14 : z.K.lookup f14 = some ⟨oc14, od14, .func (PySem.W.fnOf "_below" "Window._below" (defArgs st_Window__below) (defBody st_Window__below) (defScope st_Window__below) .none kV14 dc14 pm14 an14 cd14 ct14), sl14⟩)
    (c14 : PySem.W.codeIn z.K cd14 "Window._below" = true)
    (k14 : PySem.W.keepIn z.K (.ref f14) = true)
    (a15 : PySem.W.findIn z.K (.ref (z.C 24)) "held" = some (some (.ref f15)))
    (i15 : PySem.W.isFn z.K (.ref f15) = true)
    (l15 : z.K.lookup f15 = some ⟨oc15, od15, .func (PySem.W.fnOf "held" "Window.held" (defArgs st_Window_held) (defBody st_Window_held) (defScope st_Window_held) .none kV15 dc15 pm15 an15 cd15 ct15), sl15⟩)
    (c15 : PySem.W.codeIn z.K cd15 "Window.held" = true)
    (k15 : PySem.W.keepIn z.K (.ref f15) = true)
    (a16 : PySem.W.findIn z.K (.ref (z.C 24)) "missing" = some (some (.ref f16)))
    (i16 : PySem.W.isFn z.K (.ref f16) = true)
    (l16 : z.K.lookup f16 = some ⟨oc16, od16, .func (PySem.W.fnOf "missing" "Window.missing" (defArgs st_Window_missing) (defBody st_Window_missing) (defScope st_Window_missing) .none kV16 dc16 pm16 an16 cd16 ct16), sl16⟩)
    (c16 : PySem.W.codeIn z.K cd16 "Window.missing" = true)
    (k16 : PySem.W.keepIn z.K (.ref f16) = true)
    (a17 : PySem.W.nsIn z.K mainGlobals "_law_heard" = some (some (.ref f17)))
    (l17 : z.K.lookup f17 = some ⟨oc17, od17, .func (PySem.W.fnOf "_law_heard" "_law_heard" (defArgs st_law_heard) (defBody st_law_heard) (defScope st_law_heard) .none kV17 dc17 pm17 an17 cd17 ct17), sl17⟩)
    (c17 : PySem.W.codeIn z.K cd17 "_law_heard" = true)
    (k17 : PySem.W.keepIn z.K (.ref f17) = true)
    (a18 : PySem.W.nsIn z.K mainGlobals "are_held" = some (some (.ref f18)))
    (l18 : z.K.lookup f18 = some ⟨oc18, od18, .func (PySem.W.fnOf "are_held" "are_held" (defArgs st_are_held) (defBody st_are_held) (defScope st_are_held) .none kV18 dc18 pm18 an18 cd18 ct18), sl18⟩)
    (c18 : PySem.W.codeIn z.K cd18 "are_held" = true)
    (k18 : PySem.W.keepIn z.K (.ref f18) = true)
    (a19 : PySem.W.nsIn z.K mainGlobals "window_of" = some (some (.ref f19)))
    (l19 : z.K.lookup f19 = some ⟨oc19, od19, .func (PySem.W.fnOf "window_of" "window_of" (defArgs st_window_of) (defBody st_window_of) (defScope st_window_of) .none kV19 dc19 pm19 an19 cd19 ct19), sl19⟩)
    (c19 : PySem.W.codeIn z.K cd19 "window_of" = true)
    (k19 : PySem.W.keepIn z.K (.ref f19) = true)
    (a20 : PySem.W.nsIn z.K mainGlobals "_law_refused" = some (some (.ref f20)))
    (l20 : z.K.lookup f20 = some ⟨oc20, od20, .func (PySem.W.fnOf "_law_refused" "_law_refused" (defArgs st_law_refused) (defBody st_law_refused) (defScope st_law_refused) .none kV20 dc20 pm20 an20 (.ref cc20) ct20), sl20⟩)
    (c20 : PySem.W.codeIn z.K (.ref cc20) "_law_refused" = true)
    (tl20 : z.K.lookup cc20 = some ⟨tcl20, tdd20, .fields tvs20, tsl20⟩)
    (tv20 : tvs20[11]? = some (.ref pt20))
    (th20 : PySem.W.codeHdIn z.K cc20 pt20 = true)
    (tn20 : z.K.lookup pt20 = none)
    (tm20 : h.get? pt20 = some { cls := .none, data := .fields #[] })
    (k20 : PySem.W.keepIn z.K (.ref f20) = true)
    (a21 : PySem.W.nsIn z.K mainGlobals "law" = some (some (.ref f21)))
    (l21 : z.K.lookup f21 = some ⟨oc21, od21, .func (PySem.W.fnOf "law" "law" (defArgs st_law) (defBody st_law) (defScope st_law) .none kV21 dc21 pm21 an21 (.ref cc21) ct21), sl21⟩)
    (c21 : PySem.W.codeIn z.K (.ref cc21) "law" = true)
    (tl21 : z.K.lookup cc21 = some ⟨tcl21, tdd21, .fields tvs21, tsl21⟩)
    (tv21 : tvs21[11]? = some (.ref pt21))
    (th21 : PySem.W.codeHdIn z.K cc21 pt21 = true)
    (tn21 : z.K.lookup pt21 = none)
    (tm21 : h.get? pt21 = some { cls := .none, data := .fields #[] })
    (k21 : PySem.W.keepIn z.K (.ref f21) = true)
    (z_isinstance : PySem.W.nsIn z.K mainGlobals "isinstance" = some none)
    (z_int : PySem.W.nsIn z.K mainGlobals "int" = some none)
    (z_bool : PySem.W.nsIn z.K mainGlobals "bool" = some none)
    (z_min : PySem.W.nsIn z.K mainGlobals "min" = some none)
    (z_max : PySem.W.nsIn z.K mainGlobals "max" = some none)
    (z_range : PySem.W.nsIn z.K mainGlobals "range" = some none)
    (z_tuple : PySem.W.nsIn z.K mainGlobals "tuple" = some none)
    (z_all : PySem.W.nsIn z.K mainGlobals "all" = some none)
    (z_len : PySem.W.nsIn z.K mainGlobals "len" = some none)
    (z_zip : PySem.W.nsIn z.K mainGlobals "zip" = some none)
    (z_abs : PySem.W.nsIn z.K mainGlobals "abs" = some none)
    (z_sorted : PySem.W.nsIn z.K mainGlobals "sorted" = some none)
    (z_list : PySem.W.nsIn z.K mainGlobals "list" = some none)
    (z_repr : PySem.W.nsIn z.K mainGlobals "repr" = some none)
    (zT0 : z.T 0 = (pt20, ("_law_refused.<locals>.<lambda>" : Str)))
    (zT1 : z.T 1 = (pt21, ("law.<locals>.<lambda>" : Str))) :
    ∃ fd : FuncData, (∀ (s : Shared) (v : Value), BindsTo s fd ⟨[v], []⟩ [("script", v)]) ∧ ∀ base : Heap, z.K.In base → base.Ns mainGlobals mg → (∀ p ∈ ([(cc20, pt20, ("_law_refused.<locals>.<lambda>" : Str)), (cc21, pt21, ("law.<locals>.<lambda>" : Str))] : List (Addr × Addr × Str)), LamX.TabB base mg p.1 p.2.1) → FA P w z.K mg base 10 fa fd ["script"] (spLawT z) := by
  have e := hfa.symm.trans (PySem.W.mg_of XK Gn a21)
  cases e
  have nb : Nb mg := ⟨PySem.W.mg_none_of XK Gn z_isinstance, PySem.W.mg_none_of XK Gn z_int, PySem.W.mg_none_of XK Gn z_bool, PySem.W.mg_none_of XK Gn z_min, PySem.W.mg_none_of XK Gn z_max, PySem.W.mg_none_of XK Gn z_range, PySem.W.mg_none_of XK Gn z_tuple, PySem.W.mg_none_of XK Gn z_all, PySem.W.mg_none_of XK Gn z_len, PySem.W.mg_none_of XK Gn z_zip, PySem.W.mg_none_of XK Gn z_abs, PySem.W.mg_none_of XK Gn z_sorted, PySem.W.mg_none_of XK Gn z_list, PySem.W.mg_none_of XK Gn z_repr⟩
  have gX_InvalidSize : mg "InvalidSize" = some (.ref (z.C 10)) := PySem.W.mg_of XK Gn aX_InvalidSize
  have gX_TunnelError : mg "TunnelError" = some (.ref (z.C 0)) := PySem.W.mg_of XK Gn aX_TunnelError
  have cl_Window : Cls z.K (z.C 24) := ⟨pg_Window, hd_Window, po_Window, sa_Window⟩
  have T_InvalidSize : ErrTxt P z.K mg (z.C 10) fE_InvalidSize "word" :=
    { nf := by decide, cls := ⟨_, _, _, _, _, _, _, _, _, _, _, _, _, _, _, _, _, _, _, _, _, _, _, _, _, _, _, _, _, lX_InvalidSize, lX_TunnelError, bi_TunnelError⟩, sa := saX_InvalidSize, ga := gaX_InvalidSize, gg := ggX_InvalidSize, noN := noX_InvalidSize, iC := iX_InvalidSize, tC := tX_InvalidSize, kC := kX_InvalidSize, exC := ex_InvalidSize, eeC := eeX_InvalidSize, tyC := ty_InvalidSize, hdC := hdX_InvalidSize, th := th, sup := PySem.W.mg_none_of XK Gn su, top := tp,
      fn := ⟨_, _, _, _, _, _, _, _, _, _, _, _, _, _, _, _, _, _, _, _, _, _, _, _, _, _, _, _, _, _, _, _, fX_InvalidSize, cX_InvalidSize, dX_InvalidSize, vX_InvalidSize, by decide, flX_InvalidSize, ceX_InvalidSize⟩ }
  have ok : Ok z := ⟨⟨cl_Window, (List.forall_mem_cons.mpr ⟨n_Window_size, (List.forall_mem_cons.mpr ⟨n_Window__last, (List.forall_mem_cons.mpr ⟨n_Window__bits, (List.forall_mem_nil _)⟩)⟩)⟩)⟩, ⟨T_InvalidSize.g, ⟨ic_InvalidSize, gaX_InvalidSize, ggX_InvalidSize, ex_InvalidSize, ccX_InvalidSize, gs, tk, obX_InvalidSize⟩⟩, ⟨(exm_b ex_InvalidSize ic_InvalidSize ty_InvalidSize ss_InvalidSize ss_InvalidSize).1, (exm_b ex_InvalidSize ic_InvalidSize ty_InvalidSize ss_InvalidSize ss_InvalidSize).2⟩⟩
  have g_COUNTERS : ∃ t, mg "COUNTERS" = some (.int 9223372036854775808 t) := ⟨_, PySem.W.mg_of XK Gn aI_COUNTERS⟩
  have g_MOST_SIZE : ∃ t, mg "MOST_SIZE" = some (.int 1024 t) := ⟨_, PySem.W.mg_of XK Gn aI_MOST_SIZE⟩
  refine ⟨PySem.W.fnOf "law" "law" (defArgs st_law) (defBody st_law) (defScope st_law) .none kV21 dc21 pm21 an21 (.ref cc21) ct21, fun s v => .of_eq rfl, fun base _ _ hTB => ?_⟩
  have F0 := fun_mk (st := st_law_deal) l0 c0 k0
  have A0 : FA P w z.K mg base 1 f0 _ ps_law_deal (sp_law_deal z) := fa_src (fa_any F0 sc_law_deal (len_law_deal z) (d_law_deal nb ) (v_law_deal z ok))
  have C0 : Cal P w z.K mg base 1 "_law_deal" st_law_deal ps_law_deal (sp_law_deal z) := ⟨f0, _, F0, PySem.W.mg_of XK Gn a0, A0⟩
  have F1 := fun_mk (st := st_law_draw) l1 c1 k1
  have A1 : FA P w z.K mg base 1 f1 _ ps_law_draw (sp_law_draw z) := fa_draw (fa_any F1 sc_law_draw (len_law_draw z) (d_law_draw nb ) (v_law_draw z ok))
  have C1 : Cal P w z.K mg base 1 "_law_draw" st_law_draw ps_law_draw (sp_law_draw z) := ⟨f1, _, F1, PySem.W.mg_of XK Gn a1, A1⟩
  have F2 := fun_mk (st := st_law_pick) l2 c2 k2
  have A2 : FA P w z.K mg base 2 f2 _ ps_law_pick (sp_law_pick z) := fa_any F2 sc_law_pick (len_law_pick z) (d_law_pick nb C1) (v_law_pick z ok)
  have C2 : Cal P w z.K mg base 2 "_law_pick" st_law_pick ps_law_pick (sp_law_pick z) := ⟨f2, _, F2, PySem.W.mg_of XK Gn a2, A2⟩
  have F3 := fun_mk (st := st_is_integer) l3 c3 k3
  have A3 : FA P w z.K mg base 1 f3 _ Sh.ps_is_integer (Sh.sp_is_integer z) := fa_pure F3 sc_is_integer (Sh.len_is_integer z) (d_is_integer nb ) (Sh.v_is_integer z)
  have C3 : Cal P w z.K mg base 1 "is_integer" st_is_integer Sh.ps_is_integer (Sh.sp_is_integer z) := ⟨f3, _, F3, PySem.W.mg_of XK Gn a3, A3⟩
  have F4 := fun_mk (st := st_need_size) l4 c4 k4
  have A4 : FA P w z.K mg base 2 f4 _ Sh.ps_need_size (Sh.sp_need_size z) := fa_pure F4 sc_need_size (Sh.len_need_size z) (d_need_size nb C3 g_MOST_SIZE gX_InvalidSize T_InvalidSize) (Sh.v_need_size z ok.r_10)
  have C4 : Cal P w z.K mg base 2 "need_size" st_need_size Sh.ps_need_size (Sh.sp_need_size z) := ⟨f4, _, F4, PySem.W.mg_of XK Gn a4, A4⟩
  have F5 := fun_mk (st := st_Window___init__) l5 c5 k5
  have A5 : FA P w z.K mg base 3 f5 _ Sh.ps_Window___init__ (Sh.sp_Window___init__ z) := fa_any F5 sc_Window___init__ (Sh.len_Window___init__ z) (d_Window___init__ nb C4) (Sh.v_Window___init__ z ok.k_24)
  have C5 : CalC P w z.K mg base 3 "Window" (z.C 24) "Window.__init__" st_Window___init__ Sh.ps_Window___init__ (Sh.sp_Window___init__ z) := ⟨PySem.W.mg_of XK Gn aC_Window, f5, _, F5, ⟨mk_Window, a5, i5, kc_Window⟩, A5⟩
  have F6 := fun_mk (st := st_law_next) l6 c6 k6
  have A6 : FA P w z.K mg base 3 f6 _ ps_law_next (sp_law_next z) := fa_pure F6 sc_law_next (len_law_next z) (d_law_next nb C1 C2) (v_law_next z ok)
  have C6 : Cal P w z.K mg base 3 "_law_next" st_law_next ps_law_next (sp_law_next z) := ⟨f6, _, F6, PySem.W.mg_of XK Gn a6, A6⟩
  have F7 := fun_mk (st := st_law_word) l7 c7 k7
  have A7 : FA P w z.K mg base 1 f7 _ ps_law_word (sp_law_word z) := fa_pure F7 sc_law_word (len_law_word z) (d_law_word nb ) (v_law_word z ok)
  have C7 : Cal P w z.K mg base 1 "_law_word" st_law_word ps_law_word (sp_law_word z) := ⟨f7, _, F7, PySem.W.mg_of XK Gn a7, A7⟩
  have F8 := fun_mk (st := st_is_counter) l8 c8 k8
  have A8 : FA P w z.K mg base 2 f8 _ Sh.ps_is_counter (Sh.sp_is_counter z) := fa_pure F8 sc_is_counter (Sh.len_is_counter z) (d_is_counter nb C3 g_COUNTERS) (Sh.v_is_counter z)
  have C8 : Cal P w z.K mg base 2 "is_counter" st_is_counter Sh.ps_is_counter (Sh.sp_is_counter z) := ⟨f8, _, F8, PySem.W.mg_of XK Gn a8, A8⟩
  have F9 := fun_mk (st := st_need_counter) l9 c9 k9
  have A9 : FA P w z.K mg base 3 f9 _ Sh.ps_need_counter (Sh.sp_need_counter z) := fa_pure F9 sc_need_counter (Sh.len_need_counter z) (d_need_counter nb C8 gX_InvalidSize T_InvalidSize) (Sh.v_need_counter z ok.r_10)
  have C9 : Cal P w z.K mg base 3 "need_counter" st_need_counter Sh.ps_need_counter (Sh.sp_need_counter z) := ⟨f9, _, F9, PySem.W.mg_of XK Gn a9, A9⟩
  have F10 := fun_mk (st := st_Window_judge) l10 c10 k10
  have A10 : FA P w z.K mg base 4 f10 _ Sh.ps_Window_judge (Sh.sp_Window_judge z) := fa_pure F10 sc_Window_judge (Sh.len_Window_judge z) (d_Window_judge nb C9) (Sh.v_Window_judge z ok.k_24)
  have C10 : CalM P w z.K mg base 4 (z.C 24) "judge" "Window.judge" st_Window_judge Sh.ps_Window_judge (Sh.sp_Window_judge z) := ⟨f10, _, F10, ⟨a10, i10, k10⟩, A10⟩
  have F11 := fun_mk (st := st_Window_take) l11 c11 k11
  have A11 : FA P w z.K mg base 5 f11 _ Sh.ps_Window_take (Sh.sp_Window_take z) := fa_any F11 sc_Window_take (Sh.len_Window_take z) (d_Window_take nb C10 cl_Window) (Sh.v_Window_take z ok.k_24)
  have C11 : CalM P w z.K mg base 5 (z.C 24) "take" "Window.take" st_Window_take Sh.ps_Window_take (Sh.sp_Window_take z) := ⟨f11, _, F11, ⟨a11, i11, k11⟩, A11⟩
  have F12 := fun_mk (st := st_law_held) l12 c12 k12
  have A12 : FA P w z.K mg base 1 f12 _ ps_law_held (sp_law_held z) := fa_pure F12 sc_law_held (len_law_held z) (d_law_held nb ) (v_law_held z ok)
  have C12 : Cal P w z.K mg base 1 "_law_held" st_law_held ps_law_held (sp_law_held z) := ⟨f12, _, F12, PySem.W.mg_of XK Gn a12, A12⟩
  have F13 := fun_mk (st := st_Window_greatest) l13 c13 k13
  have A13 : FA P w z.K mg base 1 f13 _ Sh.ps_Window_greatest (Sh.sp_Window_greatest z) := fa_pure F13 sc_Window_greatest (Sh.len_Window_greatest z) (d_Window_greatest nb ) (Sh.v_Window_greatest z ok.k_24)
  have C13 : CalM P w z.K mg base 1 (z.C 24) "greatest" "Window.greatest" st_Window_greatest Sh.ps_Window_greatest (Sh.sp_Window_greatest z) := ⟨f13, _, F13, ⟨a13, i13, k13⟩, A13⟩
  have F14 := fun_mk (st := st_Window__below) l14 c14 k14
  have A14 : FA P w z.K mg base 1 f14 _ Sh.ps_Window__below (Sh.sp_Window__below z) := fa_pure F14 sc_Window__below (Sh.len_Window__below z) (d_Window__below nb ) (Sh.v_Window__below z ok.k_24)
  have C14 : CalM P w z.K mg base 1 (z.C 24) "_below" "Window._below" st_Window__below Sh.ps_Window__below (Sh.sp_Window__below z) := ⟨f14, _, F14, ⟨a14, i14, k14⟩, A14⟩
  have F15 := fun_mk (st := st_Window_held) l15 c15 k15
  have A15 : FA P w z.K mg base 2 f15 _ Sh.ps_Window_held (Sh.sp_Window_held z) := fa_pure F15 sc_Window_held (Sh.len_Window_held z) (d_Window_held nb C14 cl_Window) (Sh.v_Window_held z ok.k_24)
  have C15 : CalM P w z.K mg base 2 (z.C 24) "held" "Window.held" st_Window_held Sh.ps_Window_held (Sh.sp_Window_held z) := ⟨f15, _, F15, ⟨a15, i15, k15⟩, A15⟩
  have F16 := fun_mk (st := st_Window_missing) l16 c16 k16
  have A16 : FA P w z.K mg base 2 f16 _ Sh.ps_Window_missing (Sh.sp_Window_missing z) := fa_pure F16 sc_Window_missing (Sh.len_Window_missing z) (d_Window_missing nb C14 cl_Window) (Sh.v_Window_missing z ok.k_24)
  have C16 : CalM P w z.K mg base 2 (z.C 24) "missing" "Window.missing" st_Window_missing Sh.ps_Window_missing (Sh.sp_Window_missing z) := ⟨f16, _, F16, ⟨a16, i16, k16⟩, A16⟩
  have F17 := fun_mk (st := st_law_heard) l17 c17 k17
  have C17 : CalT P w z.K mg base 1 "_law_heard" st_law_heard N_law_heard "work" (t_law_heard z) := ⟨⟨f17, _, F17, PySem.W.mg_of XK Gn a17, d_law_heard nb gX_InvalidSize⟩, sc_law_heard, rfl, .inl rfl, rfl, rfl, b_law_heard_1⟩
  have F18 := fun_mk (st := st_are_held) l18 c18 k18
  have A18 : FA P w z.K mg base 3 f18 _ ps_are_held (sp_are_held z) := fa_pure F18 sc_are_held (len_are_held z) (d_are_held nb C8) (v_are_held z ok)
  have C18 : Cal P w z.K mg base 3 "are_held" st_are_held ps_are_held (sp_are_held z) := ⟨f18, _, F18, PySem.W.mg_of XK Gn a18, A18⟩
  have F19 := fun_mk (st := st_window_of) l19 c19 k19
  have A19 : FA P w z.K mg base 6 f19 _ ps_window_of (sp_window_of z) := fa_any F19 sc_window_of (len_window_of z) (d_window_of nb C5 C9 C18 C11 cl_Window gX_InvalidSize T_InvalidSize) (v_window_of z ok)
  have C19 : Cal P w z.K mg base 6 "window_of" st_window_of ps_window_of (sp_window_of z) := ⟨f19, _, F19, PySem.W.mg_of XK Gn a19, A19⟩
  have F20 := fun_mk (st := st_law_refused) l20 c20 k20
  have A20 : FA P w z.K mg base 9 f20 _ ps_law_refused (sp_law_refused z) := fa_pureC F20 sc_law_refused (len_law_refused z) (fun cdv e => by obtain rfl := e; exact d_law_refused (cL := cc20) nb (by rw [zT0]; exact hTB (cc20, pt20, ("_law_refused.<locals>.<lambda>" : Str)) (.head _)) (congrArg Prod.snd zT0).symm C2 C17 C5 C19) (v_law_refused z ok)
  have C20 : Cal P w z.K mg base 9 "_law_refused" st_law_refused ps_law_refused (sp_law_refused z) := ⟨f20, _, F20, PySem.W.mg_of XK Gn a20, A20⟩
  have F21 := fun_mk (st := st_law) l21 c21 k21
  have A21 : FA P w z.K mg base 10 fa _ ps_law (sp_law z) := fa_anyC F21 sc_law (len_law z) (fun cdv e => by obtain rfl := e; exact d_law (cL := cc21) nb (by rw [zT1]; exact hTB (cc21, pt21, ("law.<locals>.<lambda>" : Str)) (.tail _ (.head _))) (congrArg Prod.snd zT1).symm C0 C2 C1 C5 C6 C7 C11 C12 C13 C15 C16 C17 C10 C19 C20 cl_Window) (v_law z ok)
  exact A21
theorem all_mk {P : Program} {w : World} {K : PySem.W.Frag} {h : Heap} {mg : Str → Option Value} {fa : Addr} (XK : K.In h) (Gn : h.Ns mainGlobals mg) (hfa : mg "law" = some (.ref fa))
    {C_Window : Addr}
    {C_InvalidSize N_InvalidSize : Addr} {nm_InvalidSize q_InvalidSize : Str} {bs_InvalidSize sub_InvalidSize : List Value} {sn_InvalidSize : List Str} {ab_InvalidSize : Bool} {col_InvalidSize : Option Bool} {dd_InvalidSize : Option Addr} {k0_InvalidSize k1_InvalidSize k2_InvalidSize k3_InvalidSize k5_InvalidSize : Option Value}
    {C_TunnelError N_TunnelError : Addr} {nm_TunnelError q_TunnelError : Str} {bs_TunnelError sub_TunnelError : List Value} {sn_TunnelError : List Str} {ab_TunnelError : Bool} {col_TunnelError : Option Bool} {dd_TunnelError : Option Addr} {k0_TunnelError k1_TunnelError k2_TunnelError k3_TunnelError k5_TunnelError : Option Value}
    {fE_InvalidSize cda_InvalidSize cc_InvalidSize : Addr} {oc_InvalidSize kV_InvalidSize dc_InvalidSize pm_InvalidSize ct_InvalidSize ccl_InvalidSize cl_InvalidSize : Value} {od_InvalidSize an_InvalidSize cdd_InvalidSize cld_InvalidSize : Option Addr} {osl_InvalidSize ccs_InvalidSize csl_InvalidSize : Array (Option Value)} {vs_InvalidSize : Array Value} {file_InvalidSize : Str} {tf_InvalidSize : Tok}
    {uI_COUNTERS : Tok}
    {uI_MOST_SIZE : Tok}
    {f0 : Addr} {od0 an0 : Option Addr} {sl0 : Array (Option Value)} {oc0 kV0 dc0 pm0 cd0 ct0 : Value}
    {f1 : Addr} {od1 an1 : Option Addr} {sl1 : Array (Option Value)} {oc1 kV1 dc1 pm1 cd1 ct1 : Value}
    {f2 : Addr} {od2 an2 : Option Addr} {sl2 : Array (Option Value)} {oc2 kV2 dc2 pm2 cd2 ct2 : Value}
    {f3 : Addr} {od3 an3 : Option Addr} {sl3 : Array (Option Value)} {oc3 kV3 dc3 pm3 cd3 ct3 : Value}
    {f4 : Addr} {od4 an4 : Option Addr} {sl4 : Array (Option Value)} {oc4 kV4 dc4 pm4 cd4 ct4 : Value}
    {f5 : Addr} {od5 an5 : Option Addr} {sl5 : Array (Option Value)} {oc5 kV5 dc5 pm5 cd5 ct5 : Value}
    {f6 : Addr} {od6 an6 : Option Addr} {sl6 : Array (Option Value)} {oc6 kV6 dc6 pm6 cd6 ct6 : Value}
    {f7 : Addr} {od7 an7 : Option Addr} {sl7 : Array (Option Value)} {oc7 kV7 dc7 pm7 cd7 ct7 : Value}
    {f8 : Addr} {od8 an8 : Option Addr} {sl8 : Array (Option Value)} {oc8 kV8 dc8 pm8 cd8 ct8 : Value}
    {f9 : Addr} {od9 an9 : Option Addr} {sl9 : Array (Option Value)} {oc9 kV9 dc9 pm9 cd9 ct9 : Value}
    {f10 : Addr} {od10 an10 : Option Addr} {sl10 : Array (Option Value)} {oc10 kV10 dc10 pm10 cd10 ct10 : Value}
    {f11 : Addr} {od11 an11 : Option Addr} {sl11 : Array (Option Value)} {oc11 kV11 dc11 pm11 cd11 ct11 : Value}
    {f12 : Addr} {od12 an12 : Option Addr} {sl12 : Array (Option Value)} {oc12 kV12 dc12 pm12 cd12 ct12 : Value}
    {f13 : Addr} {od13 an13 : Option Addr} {sl13 : Array (Option Value)} {oc13 kV13 dc13 pm13 cd13 ct13 : Value}
    {f14 : Addr} {od14 an14 : Option Addr} {sl14 : Array (Option Value)} {oc14 kV14 dc14 pm14 cd14 ct14 : Value}
    {f15 : Addr} {od15 an15 : Option Addr} {sl15 : Array (Option Value)} {oc15 kV15 dc15 pm15 cd15 ct15 : Value}
    {f16 : Addr} {od16 an16 : Option Addr} {sl16 : Array (Option Value)} {oc16 kV16 dc16 pm16 cd16 ct16 : Value}
    {f17 : Addr} {od17 an17 : Option Addr} {sl17 : Array (Option Value)} {oc17 kV17 dc17 pm17 cd17 ct17 : Value}
    {f18 : Addr} {od18 an18 : Option Addr} {sl18 : Array (Option Value)} {oc18 kV18 dc18 pm18 cd18 ct18 : Value}
    {f19 : Addr} {od19 an19 : Option Addr} {sl19 : Array (Option Value)} {oc19 kV19 dc19 pm19 cd19 ct19 : Value}
    {f20 : Addr} {od20 an20 : Option Addr} {sl20 : Array (Option Value)} {oc20 kV20 dc20 pm20 ct20 : Value}
    {cc20 pt20 : Addr} {tcl20 : Value} {tdd20 : Option Addr} {tvs20 : Array Value} {tsl20 : Array (Option Value)}
    {f21 : Addr} {od21 an21 : Option Addr} {sl21 : Array (Option Value)} {oc21 kV21 dc21 pm21 ct21 : Value}
    {cc21 pt21 : Addr} {tcl21 : Value} {tdd21 : Option Addr} {tvs21 : Array Value} {tsl21 : Array (Option Value)}
    (aC_Window : PySem.W.nsIn K mainGlobals "Window" = some (some (.ref C_Window)))
    (pg_Window : PySem.W.plainGet K C_Window Str.empty = true)
    (hd_Window : PySem.W.hasDictIn K C_Window = true)
    (po_Window : PySem.W.plainOver K C_Window = true)
    (sa_Window : PySem.W.findIn K (.ref C_Window) "__setattr__" = some (some (.builtin "object.__setattr__")))
    (mk_Window : PySem.W.makesIn K C_Window = true)
    (kc_Window : PySem.W.keepIn K (.ref C_Window) = true)
    (n_Window_size : PySem.W.findIn K (.ref C_Window) "size" = some none)
    (n_Window__last : PySem.W.findIn K (.ref C_Window) "_last" = some none)
    (n_Window__bits : PySem.W.findIn K (.ref C_Window) "_bits" = some none)
    (aX_InvalidSize : PySem.W.nsIn K mainGlobals "InvalidSize" = some (some (.ref C_InvalidSize)))
    (aX_TunnelError : PySem.W.nsIn K mainGlobals "TunnelError" = some (some (.ref C_TunnelError)))
    (lX_InvalidSize : K.lookup C_InvalidSize = some (excClassObj nm_InvalidSize q_InvalidSize C_InvalidSize N_InvalidSize bs_InvalidSize (.ref C_TunnelError :: ESX.exTail) true sn_InvalidSize sub_InvalidSize ab_InvalidSize col_InvalidSize dd_InvalidSize k0_InvalidSize k1_InvalidSize k2_InvalidSize k3_InvalidSize k5_InvalidSize "Exception.__new__"))
    (lX_TunnelError : K.lookup C_TunnelError = some (excClassObj nm_TunnelError q_TunnelError C_TunnelError N_TunnelError bs_TunnelError (ESX.exTail) true sn_TunnelError sub_TunnelError ab_TunnelError col_TunnelError dd_TunnelError k0_TunnelError k1_TunnelError k2_TunnelError k3_TunnelError k5_TunnelError "Exception.__new__"))
    (ex_InvalidSize : PySem.W.subIn K (.ref C_InvalidSize) (.type "BaseException") = some true)
    (ic_InvalidSize : PySem.W.isClsIn K C_InvalidSize = true)
    (ty_InvalidSize : PySem.W.typeIn K (.ref C_InvalidSize) = some (.type "type"))
    (ss_InvalidSize : PySem.W.subIn K (.ref C_InvalidSize) (.ref C_InvalidSize) = some true)
    (ex_TunnelError : PySem.W.subIn K (.ref C_TunnelError) (.type "BaseException") = some true)
    (ic_TunnelError : PySem.W.isClsIn K C_TunnelError = true)
    (ty_TunnelError : PySem.W.typeIn K (.ref C_TunnelError) = some (.type "type"))
    (ss_TunnelError : PySem.W.subIn K (.ref C_TunnelError) (.ref C_TunnelError) = some true)
    (th : PySem.W.nsIn K PySem.cStatics "thirdparty.any" = some none)
    (su : PySem.W.nsIn K mainGlobals "super" = some none)
    (tp : (P.main.scope.names.lookup ("super" : Str)).isSome = false)
    (gs : PySem.W.specialIn K (.builtin "object.__class__") "__get__" = some (some (.builtin "getset_descriptor.__get__")))
    (tk : PySem.W.takesIn K (.builtin "object.__class__") = some true)
    (saX_InvalidSize : PySem.W.findIn K (.ref C_InvalidSize) "__setattr__" = some (some (.builtin "object.__setattr__")))
    (gaX_InvalidSize : PySem.W.findIn K (.ref C_InvalidSize) "__getattribute__" = some (some (.builtin "BaseException.__getattribute__")))
    (ggX_InvalidSize : PySem.W.findIn K (.ref C_InvalidSize) "__getattr__" = some none)
    (noX_InvalidSize : PySem.W.findIn K (.ref C_InvalidSize) "word" = some none)
    (iX_InvalidSize : PySem.W.findIn K (.ref C_InvalidSize) "__init__" = some (some (.ref fE_InvalidSize)))
    (tX_InvalidSize : PySem.W.typeIn K (.ref fE_InvalidSize) = some (.type "function"))
    (kX_InvalidSize : PySem.W.keepIn K (.ref C_InvalidSize) = true)
    (eeX_InvalidSize : PySem.W.subIn K (.ref C_InvalidSize) (.type "Exception") = some true)
    (hdX_InvalidSize : PySem.W.hasDictIn K C_InvalidSize = true)
    (ccX_InvalidSize : PySem.W.findIn K (.ref C_InvalidSize) "__class__" = some (some (.builtin "object.__class__")))
    (obX_InvalidSize : PySem.W.mroIn K C_InvalidSize (.type "object") = some true)
    (fX_InvalidSize : K.lookup fE_InvalidSize = some ⟨oc_InvalidSize, od_InvalidSize, .func (PySem.W.fnX "__init__" "InvalidSize.__init__" (eA "word" ⟨6, 17, 6, 21⟩ ⟨6, 23, 6, 27⟩) (eB "word" ⟨7, 8, 7, 13⟩ ⟨7, 8, 7, 15⟩ ⟨7, 8, 7, 24⟩ ⟨7, 25, 7, 29⟩ ⟨7, 8, 7, 30⟩ ⟨7, 8, 7, 30⟩ ⟨8, 8, 8, 12⟩ ⟨8, 8, 8, 17⟩ ⟨8, 20, 8, 24⟩ ⟨8, 8, 8, 24⟩) (eS "word") [("__class__", cc_InvalidSize)] .none kV_InvalidSize dc_InvalidSize pm_InvalidSize an_InvalidSize (.ref cda_InvalidSize) ct_InvalidSize), osl_InvalidSize⟩)
    (cX_InvalidSize : PySem.W.codeIn K (.ref cda_InvalidSize) "InvalidSize.__init__" = true)
    (dX_InvalidSize : K.lookup cda_InvalidSize = some ⟨ccl_InvalidSize, cdd_InvalidSize, .fields vs_InvalidSize, ccs_InvalidSize⟩)
    (vX_InvalidSize : vs_InvalidSize[2]? = some (.str file_InvalidSize tf_InvalidSize))
    (flX_InvalidSize : ((P.main.file : Str) == file_InvalidSize) = true)
    (ceX_InvalidSize : K.lookup cc_InvalidSize = some ⟨cl_InvalidSize, cld_InvalidSize, .cell (some (.ref C_InvalidSize)), csl_InvalidSize⟩)
    (bi_TunnelError : PySem.W.findIn K (.ref C_TunnelError) "__init__" = some (some (.builtin "Exception.__init__")))
    (aI_COUNTERS : PySem.W.nsIn K mainGlobals "COUNTERS" = some (some (.int 9223372036854775808 uI_COUNTERS)))
    (aI_MOST_SIZE : PySem.W.nsIn K mainGlobals "MOST_SIZE" = some (some (.int 1024 uI_MOST_SIZE)))
    (a0 : PySem.W.nsIn K mainGlobals "_law_deal" = some (some (.ref f0)))
    (l0 : K.lookup f0 = some ⟨oc0, od0, .func (PySem.W.fnOf "_law_deal" "_law_deal" (defArgs st_law_deal) (defBody st_law_deal) (defScope st_law_deal) .none kV0 dc0 pm0 an0 cd0 ct0), sl0⟩)
    (c0 : PySem.W.codeIn K cd0 "_law_deal" = true)
    (k0 : PySem.W.keepIn K (.ref f0) = true)
    (a1 : PySem.W.nsIn K mainGlobals "_law_draw" = some (some (.ref f1)))
    (l1 : K.lookup f1 = some ⟨oc1, od1, .func (PySem.W.fnOf "_law_draw" "_law_draw" (defArgs st_law_draw) (defBody st_law_draw) (defScope st_law_draw) .none kV1 dc1 pm1 an1 cd1 ct1), sl1⟩)
    (c1 : PySem.W.codeIn K cd1 "_law_draw" = true)
    (k1 : PySem.W.keepIn K (.ref f1) = true)
    (a2 : PySem.W.nsIn K mainGlobals "_law_pick" = some (some (.ref f2)))
    (l2 : K.lookup f2 = some ⟨oc2, od2, .func (PySem.W.fnOf "_law_pick" "_law_pick" (defArgs st_law_pick) (defBody st_law_pick) (defScope st_law_pick) .none kV2 dc2 pm2 an2 cd2 ct2), sl2⟩)
    (c2 : PySem.W.codeIn K cd2 "_law_pick" = true)
    (k2 : PySem.W.keepIn K (.ref f2) = true)
    (a3 : PySem.W.nsIn K mainGlobals "is_integer" = some (some (.ref f3)))
    (l3 : K.lookup f3 = some ⟨oc3, od3, .func (PySem.W.fnOf "is_integer" "is_integer" (defArgs st_is_integer) (defBody st_is_integer) (defScope st_is_integer) .none kV3 dc3 pm3 an3 cd3 ct3), sl3⟩)
    (c3 : PySem.W.codeIn K cd3 "is_integer" = true)
    (k3 : PySem.W.keepIn K (.ref f3) = true)
    (a4 : PySem.W.nsIn K mainGlobals "need_size" = some (some (.ref f4)))
    (l4 : K.lookup f4 = some ⟨oc4, od4, .func (PySem.W.fnOf "need_size" "need_size" (defArgs st_need_size) (defBody st_need_size) (defScope st_need_size) .none kV4 dc4 pm4 an4 cd4 ct4), sl4⟩)
    (c4 : PySem.W.codeIn K cd4 "need_size" = true)
    (k4 : PySem.W.keepIn K (.ref f4) = true)
    (a5 : PySem.W.findIn K (.ref C_Window) "__init__" = some (some (.ref f5)))
    (i5 : PySem.W.isFn K (.ref f5) = true)
    (l5 : K.lookup f5 = some ⟨oc5, od5, .func (PySem.W.fnOf "__init__" "Window.__init__" (defArgs st_Window___init__) (defBody st_Window___init__) (defScope st_Window___init__) .none kV5 dc5 pm5 an5 cd5 ct5), sl5⟩)
    (c5 : PySem.W.codeIn K cd5 "Window.__init__" = true)
    (k5 : PySem.W.keepIn K (.ref f5) = true)
    (a6 : PySem.W.nsIn K mainGlobals "_law_next" = some (some (.ref f6)))
    (l6 : K.lookup f6 = some ⟨oc6, od6, .func (PySem.W.fnOf "_law_next" "_law_next" (defArgs st_law_next) (defBody st_law_next) (defScope st_law_next) .none kV6 dc6 pm6 an6 cd6 ct6), sl6⟩)
    (c6 : PySem.W.codeIn K cd6 "_law_next" = true)
    (k6 : PySem.W.keepIn K (.ref f6) = true)
    (a7 : PySem.W.nsIn K mainGlobals "_law_word" = some (some (.ref f7)))
    (l7 : K.lookup f7 = some ⟨oc7, od7, .func (PySem.W.fnOf "_law_word" "_law_word" (defArgs st_law_word) (defBody st_law_word) (defScope st_law_word) .none kV7 dc7 pm7 an7 cd7 ct7), sl7⟩)
    (c7 : PySem.W.codeIn K cd7 "_law_word" = true)
    (k7 : PySem.W.keepIn K (.ref f7) = true)
    (a8 : PySem.W.nsIn K mainGlobals "is_counter" = some (some (.ref f8)))
    (l8 : K.lookup f8 = some ⟨oc8, od8, .func (PySem.W.fnOf "is_counter" "is_counter" (defArgs st_is_counter) (defBody st_is_counter) (defScope st_is_counter) .none kV8 dc8 pm8 an8 cd8 ct8), sl8⟩)
    (c8 : PySem.W.codeIn K cd8 "is_counter" = true)
    (k8 : PySem.W.keepIn K (.ref f8) = true)
    (a9 : PySem.W.nsIn K mainGlobals "need_counter" = some (some (.ref f9)))
    (l9 : K.lookup f9 = some ⟨oc9, od9, .func (PySem.W.fnOf "need_counter" "need_counter" (defArgs st_need_counter) (defBody st_need_counter) (defScope st_need_counter) .none kV9 dc9 pm9 an9 cd9 ct9), sl9⟩)
    (c9 : PySem.W.codeIn K cd9 "need_counter" = true)
    (k9 : PySem.W.keepIn K (.ref f9) = true)
    (a10 : PySem.W.findIn K (.ref C_Window) "judge" = some (some (.ref f10)))
    (i10 : PySem.W.isFn K (.ref f10) = true)
    (l10 : K.lookup f10 = some ⟨oc10, od10, .func (PySem.W.fnOf "judge" "Window.judge" (defArgs st_Window_judge) (defBody st_Window_judge) (defScope st_Window_judge) .none kV10 dc10 pm10 an10 cd10 ct10), sl10⟩)
    (c10 : PySem.W.codeIn K cd10 "Window.judge" = true)
    (k10 : PySem.W.keepIn K (.ref f10) = true)
    (a11 : PySem.W.findIn K (.ref C_Window) "take" = some (some (.ref f11)))
    (i11 : PySem.W.isFn K (.ref f11) = true)
    (l11 : K.lookup f11 = some ⟨oc11, od11, .func (PySem.W.fnOf "take" "Window.take" (defArgs st_Window_take) (defBody st_Window_take) (defScope st_Window_take) .none kV11 dc11 pm11 an11 cd11 ct11), sl11⟩)
    (c11 : PySem.W.codeIn K cd11 "Window.take" = true)
    (k11 : PySem.W.keepIn K (.ref f11) = true)
    (a12 : PySem.W.nsIn K mainGlobals "_law_held" = some (some (.ref f12)))
    (l12 : K.lookup f12 = some ⟨oc12, od12, .func (PySem.W.fnOf "_law_held" "_law_held" (defArgs st_law_held) (defBody st_law_held) (defScope st_law_held) .none kV12 dc12 pm12 an12 cd12 ct12), sl12⟩)
    (c12 : PySem.W.codeIn K cd12 "_law_held" = true)
    (k12 : PySem.W.keepIn K (.ref f12) = true)
    (a13 : PySem.W.findIn K (.ref C_Window) "greatest" = some (some (.ref f13)))
    (i13 : PySem.W.isFn K (.ref f13) = true)
    (l13 : K.lookup f13 = some ⟨oc13, od13, .func (PySem.W.fnOf "greatest" "Window.greatest" (defArgs st_Window_greatest) (defBody st_Window_greatest) (defScope st_Window_greatest) .none kV13 dc13 pm13 an13 cd13 ct13), sl13⟩)
    (c13 : PySem.W.codeIn K cd13 "Window.greatest" = true)
    (k13 : PySem.W.keepIn K (.ref f13) = true)
    (a14 : PySem.W.findIn K (.ref C_Window) "_below" = some (some (.ref f14)))
    (i14 : PySem.W.isFn K (.ref f14) = true)
    (l14 : K.lookup f14 = some ⟨oc14, od14, .func (PySem.W.fnOf "_below" "Window._below" (defArgs st_Window__below) (defBody st_Window__below) (defScope st_Window__below) .none kV14 dc14 pm14 an14 cd14 ct14), sl14⟩)
    (c14 : PySem.W.codeIn K cd14 "Window._below" = true)
    (k14 : PySem.W.keepIn K (.ref f14) = true)
    (a15 : PySem.W.findIn K (.ref C_Window) "held" = some (some (.ref f15)))
    (i15 : PySem.W.isFn K (.ref f15) = true)
    (l15 : K.lookup f15 = some ⟨oc15, od15, .func (PySem.W.fnOf "held" "Window.held" (defArgs st_Window_held) (defBody st_Window_held) (defScope st_Window_held) .none kV15 dc15 pm15 an15 cd15 ct15), sl15⟩)
    (c15 : PySem.W.codeIn K cd15 "Window.held" = true)
    (k15 : PySem.W.keepIn K (.ref f15) = true)
    (a16 : PySem.W.findIn K (.ref C_Window) "missing" = some (some (.ref f16)))
    (i16 : PySem.W.isFn K (.ref f16) = true)
    (l16 : K.lookup f16 = some ⟨oc16, od16, .func (PySem.W.fnOf "missing" "Window.missing" (defArgs st_Window_missing) (defBody st_Window_missing) (defScope st_Window_missing) .none kV16 dc16 pm16 an16 cd16 ct16), sl16⟩)
    (c16 : PySem.W.codeIn K cd16 "Window.missing" = true)
    (k16 : PySem.W.keepIn K (.ref f16) = true)
    (a17 : PySem.W.nsIn K mainGlobals "_law_heard" = some (some (.ref f17)))
    (l17 : K.lookup f17 = some ⟨oc17, od17, .func (PySem.W.fnOf "_law_heard" "_law_heard" (defArgs st_law_heard) (defBody st_law_heard) (defScope st_law_heard) .none kV17 dc17 pm17 an17 cd17 ct17), sl17⟩)
    (c17 : PySem.W.codeIn K cd17 "_law_heard" = true)
    (k17 : PySem.W.keepIn K (.ref f17) = true)
    (a18 : PySem.W.nsIn K mainGlobals "are_held" = some (some (.ref f18)))
    (l18 : K.lookup f18 = some ⟨oc18, od18, .func (PySem.W.fnOf "are_held" "are_held" (defArgs st_are_held) (defBody st_are_held) (defScope st_are_held) .none kV18 dc18 pm18 an18 cd18 ct18), sl18⟩)
    (c18 : PySem.W.codeIn K cd18 "are_held" = true)
    (k18 : PySem.W.keepIn K (.ref f18) = true)
    (a19 : PySem.W.nsIn K mainGlobals "window_of" = some (some (.ref f19)))
    (l19 : K.lookup f19 = some ⟨oc19, od19, .func (PySem.W.fnOf "window_of" "window_of" (defArgs st_window_of) (defBody st_window_of) (defScope st_window_of) .none kV19 dc19 pm19 an19 cd19 ct19), sl19⟩)
    (c19 : PySem.W.codeIn K cd19 "window_of" = true)
    (k19 : PySem.W.keepIn K (.ref f19) = true)
    (a20 : PySem.W.nsIn K mainGlobals "_law_refused" = some (some (.ref f20)))
    (l20 : K.lookup f20 = some ⟨oc20, od20, .func (PySem.W.fnOf "_law_refused" "_law_refused" (defArgs st_law_refused) (defBody st_law_refused) (defScope st_law_refused) .none kV20 dc20 pm20 an20 (.ref cc20) ct20), sl20⟩)
    (c20 : PySem.W.codeIn K (.ref cc20) "_law_refused" = true)
    (tl20 : K.lookup cc20 = some ⟨tcl20, tdd20, .fields tvs20, tsl20⟩)
    (tv20 : tvs20[11]? = some (.ref pt20))
    (th20 : PySem.W.codeHdIn K cc20 pt20 = true)
    (tn20 : K.lookup pt20 = none)
    (tm20 : h.get? pt20 = some { cls := .none, data := .fields #[] })
    (k20 : PySem.W.keepIn K (.ref f20) = true)
    (a21 : PySem.W.nsIn K mainGlobals "law" = some (some (.ref f21)))
    (l21 : K.lookup f21 = some ⟨oc21, od21, .func (PySem.W.fnOf "law" "law" (defArgs st_law) (defBody st_law) (defScope st_law) .none kV21 dc21 pm21 an21 (.ref cc21) ct21), sl21⟩)
    (c21 : PySem.W.codeIn K (.ref cc21) "law" = true)
    (tl21 : K.lookup cc21 = some ⟨tcl21, tdd21, .fields tvs21, tsl21⟩)
    (tv21 : tvs21[11]? = some (.ref pt21))
    (th21 : PySem.W.codeHdIn K cc21 pt21 = true)
    (tn21 : K.lookup pt21 = none)
    (tm21 : h.get? pt21 = some { cls := .none, data := .fields #[] })
    (k21 : PySem.W.keepIn K (.ref f21) = true)
    (z_isinstance : PySem.W.nsIn K mainGlobals "isinstance" = some none)
    (z_int : PySem.W.nsIn K mainGlobals "int" = some none)
    (z_bool : PySem.W.nsIn K mainGlobals "bool" = some none)
    (z_min : PySem.W.nsIn K mainGlobals "min" = some none)
    (z_max : PySem.W.nsIn K mainGlobals "max" = some none)
    (z_range : PySem.W.nsIn K mainGlobals "range" = some none)
    (z_tuple : PySem.W.nsIn K mainGlobals "tuple" = some none)
    (z_all : PySem.W.nsIn K mainGlobals "all" = some none)
    (z_len : PySem.W.nsIn K mainGlobals "len" = some none)
    (z_zip : PySem.W.nsIn K mainGlobals "zip" = some none)
    (z_abs : PySem.W.nsIn K mainGlobals "abs" = some none)
    (z_sorted : PySem.W.nsIn K mainGlobals "sorted" = some none)
    (z_list : PySem.W.nsIn K mainGlobals "list" = some none)
    (z_repr : PySem.W.nsIn K mainGlobals "repr" = some none)
    (nd : (([(cc20, pt20, ("_law_refused.<locals>.<lambda>" : Str)), (cc21, pt21, ("law.<locals>.<lambda>" : Str))] : List (Addr × Addr × Str)).map fun p => p.2.1).Nodup) :
    ∃ (z : Wd) (cs : List (Addr × Addr × Str)) (fd : FuncData), (∀ p ∈ cs, h.get? p.2.1 = some { cls := .none, data := .fields #[] }) ∧ (∀ p ∈ cs, K.lookup p.2.1 = none) ∧ (∀ p ∈ cs, PySem.W.codeHdIn K p.1 p.2.1 = true) ∧ TabM z (tabMem cs) ∧
      (∀ (s : Shared) (u : Value), BindsTo s fd ⟨[u], []⟩ [("script", u)]) ∧ ∀ base : Heap, K.In base → base.Ns mainGlobals mg → (∀ p ∈ cs, LamX.TabB base mg p.1 p.2.1) → FA P w K mg base 10 fa fd ["script"] (spLawT z) :=
  let ⟨fd, h1, h2⟩ := all_mz ⟨K, mkC [(10, C_InvalidSize), (0, C_TunnelError), (24, C_Window)], mkT [(pt20, ("_law_refused.<locals>.<lambda>" : Str)), (pt21, ("law.<locals>.<lambda>" : Str))]⟩ XK Gn hfa aC_Window pg_Window hd_Window po_Window sa_Window mk_Window kc_Window n_Window_size n_Window__last n_Window__bits aX_InvalidSize aX_TunnelError lX_InvalidSize lX_TunnelError ex_InvalidSize ic_InvalidSize ty_InvalidSize ss_InvalidSize ex_TunnelError ic_TunnelError ty_TunnelError ss_TunnelError th su tp gs tk saX_InvalidSize gaX_InvalidSize ggX_InvalidSize noX_InvalidSize iX_InvalidSize tX_InvalidSize kX_InvalidSize eeX_InvalidSize hdX_InvalidSize ccX_InvalidSize obX_InvalidSize fX_InvalidSize cX_InvalidSize dX_InvalidSize vX_InvalidSize flX_InvalidSize ceX_InvalidSize bi_TunnelError aI_COUNTERS aI_MOST_SIZE a0 l0 c0 k0 a1 l1 c1 k1 a2 l2 c2 k2 a3 l3 c3 k3 a4 l4 c4 k4 a5 i5 l5 c5 k5 a6 l6 c6 k6 a7 l7 c7 k7 a8 l8 c8 k8 a9 l9 c9 k9 a10 i10 l10 c10 k10 a11 i11 l11 c11 k11 a12 l12 c12 k12 a13 i13 l13 c13 k13 a14 i14 l14 c14 k14 a15 i15 l15 c15 k15 a16 i16 l16 c16 k16 a17 l17 c17 k17 a18 l18 c18 k18 a19 l19 c19 k19 a20 l20 c20 tl20 tv20 th20 tn20 tm20 k20 a21 l21 c21 tl21 tv21 th21 tn21 tm21 k21 z_isinstance z_int z_bool z_min z_max z_range z_tuple z_all z_len z_zip z_abs z_sorted z_list z_repr rfl rfl
  ⟨⟨K, mkC [(10, C_InvalidSize), (0, C_TunnelError), (24, C_Window)], mkT [(pt20, ("_law_refused.<locals>.<lambda>" : Str)), (pt21, ("law.<locals>.<lambda>" : Str))]⟩, [(cc20, pt20, ("_law_refused.<locals>.<lambda>" : Str)), (cc21, pt21, ("law.<locals>.<lambda>" : Str))], fd, List.forall_mem_cons.mpr ⟨tm20, List.forall_mem_cons.mpr ⟨tm21, List.forall_mem_nil _⟩⟩, List.forall_mem_cons.mpr ⟨tn20, List.forall_mem_cons.mpr ⟨tn21, List.forall_mem_nil _⟩⟩, List.forall_mem_cons.mpr ⟨th20, List.forall_mem_cons.mpr ⟨th21, List.forall_mem_nil _⟩⟩, tabM_of nd, h1, h2⟩
end K46
open PySem PySem.W PyProof.Rows in
set_option maxRecDepth 100000 in
set_option maxHeartbeats 0 in
theorem PySem.Challenge.cw_putinonce_k46_windows_told_and_made_anew_holds : PySem.Challenge.rw_putinonce_k46_windows_told_and_made_anew.Holds := by
  w_on; o_law; k_head; (case hw => w_witness2)
  k_fill
  refine HA.walk_AT (k := 10) (x := "script") (l := PySem.Challenge.rw_putinonce_k46_windows_told_and_made_anew) rfl rfl ⟨rfl, by decide, by decide⟩ (fun w h Y => PySem.W.km_in_of Y) ?F
  case F =>
    intro w mg fa h Y KX G hmg
    refine' K46.all_mk KX G hmg ?aC_Window ?pg_Window ?hd_Window ?po_Window ?sa_Window ?mk_Window ?kc_Window ?n_Window_size ?n_Window__last ?n_Window__bits ?aX_InvalidSize ?aX_TunnelError ?lX_InvalidSize ?lX_TunnelError ?ex_InvalidSize ?ic_InvalidSize ?ty_InvalidSize ?ss_InvalidSize ?ex_TunnelError ?ic_TunnelError ?ty_TunnelError ?ss_TunnelError ?th ?su ?tp ?gs ?tk ?saX_InvalidSize ?gaX_InvalidSize ?ggX_InvalidSize ?noX_InvalidSize ?iX_InvalidSize ?tX_InvalidSize ?kX_InvalidSize ?eeX_InvalidSize ?hdX_InvalidSize ?ccX_InvalidSize ?obX_InvalidSize ?fX_InvalidSize ?cX_InvalidSize ?dX_InvalidSize ?vX_InvalidSize ?flX_InvalidSize ?ceX_InvalidSize ?bi_TunnelError ?aI_COUNTERS ?aI_MOST_SIZE ?a0 ?l0 ?c0 ?k0 ?a1 ?l1 ?c1 ?k1 ?a2 ?l2 ?c2 ?k2 ?a3 ?l3 ?c3 ?k3 ?a4 ?l4 ?c4 ?k4 ?a5 ?i5 ?l5 ?c5 ?k5 ?a6 ?l6 ?c6 ?k6 ?a7 ?l7 ?c7 ?k7 ?a8 ?l8 ?c8 ?k8 ?a9 ?l9 ?c9 ?k9 ?a10 ?i10 ?l10 ?c10 ?k10 ?a11 ?i11 ?l11 ?c11 ?k11 ?a12 ?l12 ?c12 ?k12 ?a13 ?i13 ?l13 ?c13 ?k13 ?a14 ?i14 ?l14 ?c14 ?k14 ?a15 ?i15 ?l15 ?c15 ?k15 ?a16 ?i16 ?l16 ?c16 ?k16 ?a17 ?l17 ?c17 ?k17 ?a18 ?l18 ?c18 ?k18 ?a19 ?l19 ?c19 ?k19 ?a20 ?l20 ?c20 ?tl20 ?tv20 ?th20 ?tn20 ?tm20 ?k20 ?a21 ?l21 ?c21 ?tl21 ?tv21 ?th21 ?tn21 ?tm21 ?k21 ?z_isinstance ?z_int ?z_bool ?z_min ?z_max ?z_range ?z_tuple ?z_all ?z_len ?z_zip ?z_abs ?z_sorted ?z_list ?z_repr ?nd
    (case aC_Window => k_is)
    (case pg_Window => k_is)
    (case hd_Window => k_is)
    (case po_Window => k_is)
    (case sa_Window => k_is)
    (case mk_Window => k_is)
    (case kc_Window => k_is)
    (case n_Window_size => k_is)
    (case n_Window__last => k_is)
    (case n_Window__bits => k_is)
    (case aX_InvalidSize => k_is)
    (case aX_TunnelError => k_is)
    (case lX_InvalidSize => k_is)
    (case lX_TunnelError => k_is)
    (case ex_InvalidSize => k_is)
    (case ic_InvalidSize => k_is)
    (case ty_InvalidSize => k_is)
    (case ss_InvalidSize => first | rfl | k_is)
    (case ex_TunnelError => k_is)
    (case ic_TunnelError => k_is)
    (case ty_TunnelError => k_is)
    (case ss_TunnelError => first | rfl | k_is)
    (case th => k_is)
    (case su => k_is)
    (case tp => first | rfl | decide +kernel)
    (case gs => k_is)
    (case tk => k_is)
    (case saX_InvalidSize => k_is)
    (case gaX_InvalidSize => k_is)
    (case ggX_InvalidSize => k_is)
    (case noX_InvalidSize => k_is)
    (case iX_InvalidSize => k_is)
    (case tX_InvalidSize => k_is)
    (case kX_InvalidSize => k_is)
    (case eeX_InvalidSize => k_is)
    (case hdX_InvalidSize => k_is)
    (case ccX_InvalidSize => k_is)
    (case obX_InvalidSize => k_is)
    (case fX_InvalidSize => k_is)
    (case cX_InvalidSize => k_is)
    (case dX_InvalidSize => k_is)
    (case vX_InvalidSize => first | rfl | decide +kernel | k_is)
    (case flX_InvalidSize => first | rfl | decide +kernel | k_is)
    (case ceX_InvalidSize => k_is)
    (case bi_TunnelError => k_is)
    (case aI_COUNTERS => k_is)
    (case aI_MOST_SIZE => k_is)
    (case a0 => k_is)
    (case l0 => k_is)
    (case c0 => k_is)
    (case k0 => k_is)
    (case a1 => k_is)
    (case l1 => k_is)
    (case c1 => k_is)
    (case k1 => k_is)
    (case a2 => k_is)
    (case l2 => k_is)
    (case c2 => k_is)
    (case k2 => k_is)
    (case a3 => k_is)
    (case l3 => k_is)
    (case c3 => k_is)
    (case k3 => k_is)
    (case a4 => k_is)
    (case l4 => k_is)
    (case c4 => k_is)
    (case k4 => k_is)
    (case a5 => k_is)
    (case i5 => k_is)
    (case l5 => k_is)
    (case c5 => k_is)
    (case k5 => k_is)
    (case a6 => k_is)
    (case l6 => k_is)
    (case c6 => k_is)
    (case k6 => k_is)
    (case a7 => k_is)
    (case l7 => k_is)
    (case c7 => k_is)
    (case k7 => k_is)
    (case a8 => k_is)
    (case l8 => k_is)
    (case c8 => k_is)
    (case k8 => k_is)
    (case a9 => k_is)
    (case l9 => k_is)
    (case c9 => k_is)
    (case k9 => k_is)
    (case a10 => k_is)
    (case i10 => k_is)
    (case l10 => k_is)
    (case c10 => k_is)
    (case k10 => k_is)
    (case a11 => k_is)
    (case i11 => k_is)
    (case l11 => k_is)
    (case c11 => k_is)
    (case k11 => k_is)
    (case a12 => k_is)
    (case l12 => k_is)
    (case c12 => k_is)
    (case k12 => k_is)
    (case a13 => k_is)
    (case i13 => k_is)
    (case l13 => k_is)
    (case c13 => k_is)
    (case k13 => k_is)
    (case a14 => k_is)
    (case i14 => k_is)
    (case l14 => k_is)
    (case c14 => k_is)
    (case k14 => k_is)
    (case a15 => k_is)
    (case i15 => k_is)
    (case l15 => k_is)
    (case c15 => k_is)
    (case k15 => k_is)
    (case a16 => k_is)
    (case i16 => k_is)
    (case l16 => k_is)
    (case c16 => k_is)
    (case k16 => k_is)
    (case a17 => k_is)
    (case l17 => k_is)
    (case c17 => k_is)
    (case k17 => k_is)
    (case a18 => k_is)
    (case l18 => k_is)
    (case c18 => k_is)
    (case k18 => k_is)
    (case a19 => k_is)
    (case l19 => k_is)
    (case c19 => k_is)
    (case k19 => k_is)
    (case a20 => k_is)
    (case l20 => k_is)
    (case c20 => k_is)
    (case tl20 => k_is)
    (case tv20 => first | rfl | k_is)
    (case th20 => kernel_rfl)
    (case tn20 => kernel_rfl)
    (case tm20 => exact PySem.W.km_tabs_of Y _ (by k_mem))
    (case k20 => k_is)
    (case a21 => k_is)
    (case l21 => k_is)
    (case c21 => k_is)
    (case tl21 => k_is)
    (case tv21 => first | rfl | k_is)
    (case th21 => kernel_rfl)
    (case tn21 => kernel_rfl)
    (case tm21 => exact PySem.W.km_tabs_of Y _ (by k_mem))
    (case k21 => k_is)
    (case z_isinstance => k_is)
    (case z_int => k_is)
    (case z_bool => k_is)
    (case z_min => k_is)
    (case z_max => k_is)
    (case z_range => k_is)
    (case z_tuple => k_is)
    (case z_all => k_is)
    (case z_len => k_is)
    (case z_zip => k_is)
    (case z_abs => k_is)
    (case z_sorted => k_is)
    (case z_list => k_is)
    (case z_repr => k_is)
    (case nd => decide)
