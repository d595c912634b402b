import PyProof.Rows.All
import Wide.All
import OpenK.AllK
import Wide.FinOn
import KE.KStateDown
import HandS.ForMost
import HandS.Exc
import HandS.TryOnly
import HandS.ExcOwn
import HandS.WordsExc
import HandS.Defaults
import HandS.Lambda
import HandS.EndTab
import HandS.HeadWalk
import HandS.Head2
import HandS.HeadHook4
import HandS.Style
import HandS.TupAny
import HandS.Wide
import HandS.WideMore
import HandS.ExcCtx
import HandS.IsInst
import HandS.SetFor
import HandS.Deep
import KE.SortData
import HandS.SortInts
import HandS.RaiseMore
import HandS.Conv
import HandS.FStr
import PyProof.LongRange
import KE.GoesNew
import KE.GoesMore
import KE.GoesZip
import HandS.Iter
import HandS.Zip
import KE.KDictSum
import PyProof.ListRange
import HandS.DictTup
import HandS.TupSets
import KE.KDictDisplayH
import KE.KDictZip
import HandS.ExcIs
import HandS.HotCalls
import HandS.Hot
import HandS.Replace
import PyProof.ListStr
import HandS.Codes
import PySem.Challenge.RW_pushedrounds_k06_texts_of_houses
set_option Elab.async false
set_option linter.all false
set_option maxRecDepth 100000
set_option maxHeartbeats 4000000
/-! # The layer of data: what a program does, told over plain data (no heap), one transformer a construct. -/
namespace Dl
open PySem L2

/-! ### data, what changes, the transformers' types -/
/-- a value with all that it holds; scr: the script; fn n: the module's n; obj a: an object by its place alone -/
inductive D where
  | non | bl (b : Bool) | int (i : Int) | str (x : Str) | tup (ds : List D) | lst (ds : List D) | scr (ns : List Int) | fn (n : Str) | obj (a : Nat)
/-- what may still change: a list, a list of two ints that draws are made from, dicts, an instance -/
inductive MO where
  | lst (ds : List D) | can | dK (kvs : List (Key × D)) | dT (kvs : List (List Key × D)) | ins (c : Str) (fs : List (Str × D)) | tab (q : Str)
/-- an exception: its class, its field -/
inductive Exn where
  | mk (c : Str) (f : Option (Str × D))
abbrev Env := List (Option D)
abbrev Mem := List (Nat × MO)
abbrev DQ := D → Mem → Prop
abbrev DR := Exn → Env → Mem → Prop
/-- an expression's transformer | a test's | an argument list's -/
abbrev DX (α : Type) := Env → Mem → (α → Mem → Prop) → DR → Prop
abbrev DTE := DX D
abbrev DTT := DX Bool
abbrev DTA := DX (List D)
structure DEnds where
  nx : Env → Mem → Prop
  rt : DQ
  bk : Env → Mem → Prop := fun _ _ => False
  ct : Env → Mem → Prop := fun _ _ => False
abbrev DTS := DEnds → Env → Mem → DR → Prop
/-- what a def is worth -/
abbrev DSp := List D → Mem → DQ → (Exn → Mem → Prop) → Prop
/-- a target -/
abbrev DTG := D → Env → Mem → (Env → Mem → Prop) → Prop

def nth : Env → Nat → Option D
  | [], _ => none
  | d :: _, 0 => d
  | _ :: r, n + 1 => nth r n
def put : Env → Nat → D → Env
  | [], _, _ => []
  | _ :: r, 0, v => some v :: r
  | d :: r, n + 1, v => d :: put r n v
def del : Env → Nat → Env
  | [], _ => []
  | _ :: r, 0 => none :: r
  | d :: r, n + 1 => d :: del r n
def dels (ρ : Env) : List Nat → Env
  | [] => ρ
  | v :: vs => del (dels ρ vs) v
theorem nth_eq : ∀ (ρ : Env) (i : Nat) (d : D), nth ρ i = some d ↔ ρ[i]? = some (some d)
  | [], i, d => by simp [nth]
  | x :: r, 0, d => by simp [nth]
  | x :: r, n + 1, d => by simpa [nth] using nth_eq r n d
theorem put_eq : ∀ (ρ : Env) (i : Nat) (d : D), put ρ i d = ρ.set i (some d)
  | [], i, d => by simp [put]
  | x :: r, 0, d => by simp [put]
  | x :: r, n + 1, d => by simp [put, put_eq r n d]
theorem del_eq : ∀ (ρ : Env) (i : Nat), del ρ i = ρ.set i none
  | [], i => by simp [del]
  | x :: r, 0 => by simp [del]
  | x :: r, n + 1 => by simp [del, del_eq r n]

/-! ### how data lie in the abstract heap -/
variable {K : PySem.W.Frag}
/-- no table of code objects -/
class NT (o : HO) : Prop where
  nt : ∀ ps, o ≠ .tbl ps
instance (xs : List V) : NT (.lst xs) := ⟨fun _ z => by cases z⟩
instance (xs : List V) : NT (.tup xs) := ⟨fun _ z => by cases z⟩
instance (kvs : List (Key × V)) : NT (.dK kvs) := ⟨fun _ z => by cases z⟩
instance (kvs : List (List Key × V)) : NT (.dT kvs) := ⟨fun _ z => by cases z⟩
instance (c d : Addr) (fs : List (Str × V)) : NT (.ins c d fs) := ⟨fun _ z => by cases z⟩
instance (fs : List (Str × V)) : NT (.xd fs) := ⟨fun _ z => by cases z⟩
theorem nt_or (o : HO) : NT o ∨ ∃ ps, o = .tbl ps := by
  cases o <;> first | exact .inr ⟨_, rfl⟩ | exact .inl ⟨fun _ z => by cases z⟩
def Ex (H H' : Hp) : Prop := ∀ a o, H a = some o → H' a = some o
theorem Ex.refl (H : Hp) : Ex H H := fun _ _ h => h
theorem Ex.trans {H H1 H2 : Hp} (a : Ex H H1) (b : Ex H1 H2) : Ex H H2 := fun x o h => b x o (a x o h)
theorem Ex.new {H : Hp} {p : Addr} {o : HO} (h : H p = none) : Ex H (upd H p o) := fun a u e => by
  rw [upd_ne (ne_of_none e h)]
  exact e
theorem Ex.rd {H H' : Hp} {a : Addr} {u : HO} (e : Ex H H') (h : Rd H a u) : Rd H' a u := by
  rcases h with h | ⟨o, h⟩
  · exact Or.inl (e a _ h)
  · exact Or.inr ⟨o, e a _ h⟩
theorem Ex.l {H H' : Hp} {a : Addr} {xs : List V} (e : Ex H H') (h : SqL K H a xs) : SqL K H' a xs := h.elim (fun h => Or.inl (e.rd h)) Or.inr
theorem Ex.t {H H' : Hp} {a : Addr} {xs : List V} (e : Ex H H') (h : SqT K H a xs) : SqT K H' a xs := h.elim (fun h => Or.inl (e.rd h)) Or.inr
theorem Ex.free {H H' : Hp} {p : Addr} (e : Ex H H') (h : H' p = none) : H p = none := by
  cases h1 : H p with
  | none => rfl
  | some o => rw [e p o h1] at h; cases h

mutual
inductive Rep (K : PySem.W.Frag) (Z : Hp) : V → D → Prop
  | non : Rep K Z .non .non
  | bl (b : Bool) : Rep K Z (.bl b) (.bl b)
  | int (i : Int) : Rep K Z (.int i) (.int i)
  | str (x : Str) : Rep K Z (.str x) (.str x)
  | tup {a : Addr} {xs : List V} {ds : List D} : Z a = some (.tup xs) → RepL K Z xs ds → Rep K Z (.ref a) (.tup ds)
  | lst {a : Addr} {xs : List V} {ds : List D} : Z a = some (.lst xs) → RepL K Z xs ds → Rep K Z (.ref a) (.lst ds)
  | scr {a : Addr} {ns : List Int} : SqL K Z a (ns.map V.int) → Rep K Z (.ref a) (.scr ns)
  | fn (n : Str) : Rep K Z (.ref (He.ga K n)) (.fn n)
  | obj (a : Addr) : Rep K Z (.ref a) (.obj a)
inductive RepL (K : PySem.W.Frag) (Z : Hp) : List V → List D → Prop
  | nil : RepL K Z [] []
  | cons {v : V} {vs : List V} {d : D} {ds : List D} : Rep K Z v d → RepL K Z vs ds → RepL K Z (v :: vs) (d :: ds)
end
section
variable {Z Z' : Hp}
mutual
theorem Rep.mono (e : Ex Z Z') : ∀ {v : V} {d : D}, Rep K Z v d → Rep K Z' v d
  | _, _, .non => .non
  | _, _, .bl b => .bl b
  | _, _, .int i => .int i
  | _, _, .str x => .str x
  | _, _, .tup h r => .tup (e _ _ h) (r.mono e)
  | _, _, .lst h r => .lst (e _ _ h) (r.mono e)
  | _, _, .scr h => .scr (e.l h)
  | _, _, .fn n => .fn n
  | _, _, .obj a => .obj a
theorem RepL.mono (e : Ex Z Z') : ∀ {vs : List V} {ds : List D}, RepL K Z vs ds → RepL K Z' vs ds
  | _, _, .nil => .nil
  | _, _, .cons h r => .cons (h.mono e) (r.mono e)
end
theorem RepL.length : ∀ {vs : List V} {ds : List D}, RepL K Z vs ds → vs.length = ds.length
  | _, _, .nil => rfl
  | _, _, .cons _ r => congrArg Nat.succ r.length
theorem RepL.get : ∀ {vs : List V} {ds : List D}, RepL K Z vs ds → ∀ {i : Nat} {d : D}, ds[i]? = some d → ∃ v, vs[i]? = some v ∧ Rep K Z v d
  | _, _, .nil, i, d, h => by simp at h
  | _, _, .cons r t, 0, d, h => by
    have e : _ = d := Option.some.inj h
    subst e
    exact ⟨_, rfl, r⟩
  | _, _, .cons r t, i + 1, d, h => by
    obtain ⟨v, e, q⟩ := t.get (i := i) (by simpa using h)
    exact ⟨v, by simpa using e, q⟩
theorem RepL.get' : ∀ {vs : List V} {ds : List D}, RepL K Z vs ds → ∀ {i : Nat} {v : V}, vs[i]? = some v → ∃ d, ds[i]? = some d ∧ Rep K Z v d
  | _, _, .nil, i, d, h => by simp at h
  | _, _, .cons r t, 0, d, h => by
    have e : _ = d := Option.some.inj h
    subst e
    exact ⟨_, rfl, r⟩
  | _, _, .cons r t, i + 1, d, h => by
    obtain ⟨v, e, q⟩ := t.get' (i := i) (by simpa using h)
    exact ⟨v, by simpa using e, q⟩
theorem RepL.append : ∀ {vs ws : List V} {ds es : List D}, RepL K Z vs ds → RepL K Z ws es → RepL K Z (vs ++ ws) (ds ++ es)
  | _, _, _, _, .nil, s => s
  | _, _, _, _, .cons r t, s => .cons r (t.append s)
theorem RepL.take : ∀ {vs : List V} {ds : List D} (n : Nat), RepL K Z vs ds → RepL K Z (vs.take n) (ds.take n)
  | _, _, 0, _ => .nil
  | _, _, _ + 1, .nil => .nil
  | _, _, n + 1, .cons r t => .cons r (t.take n)
theorem RepL.drop : ∀ {vs : List V} {ds : List D} (n : Nat), RepL K Z vs ds → RepL K Z (vs.drop n) (ds.drop n)
  | _, _, 0, r => r
  | _, _, _ + 1, .nil => .nil
  | _, _, n + 1, .cons r t => t.drop n
theorem RepL.set {v : V} {d : D} (q : Rep K Z v d) : ∀ {vs : List V} {ds : List D} (n : Nat), RepL K Z vs ds → RepL K Z (vs.set n v) (ds.set n d)
  | _, _, _, .nil => .nil
  | _, _, 0, .cons r t => .cons q t
  | _, _, n + 1, .cons r t => .cons r (t.set q n)
theorem RepL.reverse : ∀ {vs : List V} {ds : List D}, RepL K Z vs ds → RepL K Z vs.reverse ds.reverse
  | _, _, .nil => .nil
  | _, _, .cons r t => by
    rw [List.reverse_cons, List.reverse_cons]
    exact t.reverse.append (.cons r .nil)
theorem RepL.ints : ∀ {vs : List V} {ns : List Int}, RepL K Z vs (ns.map D.int) → vs = ns.map V.int
  | [], [], _ => rfl
  | [], _ :: _, h => by cases h
  | _ :: _, [], h => by cases h
  | v :: vs, n :: ns, h => by
    rw [List.map_cons] at h
    cases h with
    | cons r t =>
      cases r
      rw [RepL.ints t] <;> rfl
theorem repL_ints : ∀ (ns : List Int), RepL K Z (ns.map V.int) (ns.map D.int)
  | [] => .nil
  | n :: ns => .cons (.int n) (repL_ints ns)
theorem RepL.strs : ∀ {vs : List V} {ns : List Str}, RepL K Z vs (ns.map D.str) → vs = ns.map V.str
  | [], [], _ => rfl
  | [], _ :: _, h => by cases h
  | _ :: _, [], h => by cases h
  | v :: vs, n :: ns, h => by
    rw [List.map_cons] at h
    cases h with
    | cons r t =>
      cases r
      rw [RepL.strs t] <;> rfl
theorem repL_strs : ∀ (ns : List Str), RepL K Z (ns.map V.str) (ns.map D.str)
  | [] => .nil
  | n :: ns => .cons (.str n) (repL_strs ns)
theorem RepL.bls : ∀ {vs : List V} {ns : List Bool}, RepL K Z vs (ns.map D.bl) → vs = ns.map V.bl
  | [], [], _ => rfl
  | [], _ :: _, h => by cases h
  | _ :: _, [], h => by cases h
  | v :: vs, n :: ns, h => by
    rw [List.map_cons] at h
    cases h with
    | cons r t =>
      cases r
      rw [RepL.bls t] <;> rfl
end

/-! ### what may change, as it lies -/
def keys (M : Mem) : List Nat := M.map (·.1)
/-- two lists, item by item -/
inductive All2 {α β : Type} (F : α → β → Prop) : List α → List β → Prop
  | nil : All2 F [] []
  | cons {a b l m} : F a b → All2 F l m → All2 F (a :: l) (b :: m)
theorem All2.imp {α β : Type} {F G : α → β → Prop} (f : ∀ a b, F a b → G a b) : ∀ {l m}, All2 F l m → All2 G l m
  | _, _, .nil => .nil
  | _, _, .cons h t => .cons (f _ _ h) (t.imp f)
theorem All2.length {α β : Type} {F : α → β → Prop} : ∀ {l m}, All2 F l m → l.length = m.length
  | _, _, .nil => rfl
  | _, _, .cons _ t => congrArg Nat.succ t.length
/-- keys alike, values that lie so -/
def KvR {κ : Type} (K : PySem.W.Frag) (Z : Hp) (p : κ × V) (q : κ × D) : Prop := p.1 = q.1 ∧ Rep K Z p.2 q.2
theorem KvR.mono {κ : Type} {Z Z' : Hp} (e : Ex Z Z') {p : κ × V} {q : κ × D} (h : KvR K Z p q) : KvR K Z' p q := ⟨h.1, h.2.mono e⟩
def CanOk (a b : Int) : Prop := 0 ≤ a ∧ 0 ≤ b ∧ b ≤ 2147483237
/-- the name of the lambdas that the def n makes -/
def lamQ (n : Str) : Str := (n ++ ".<locals>.") ++ "<lambda>"
def MOk (K : PySem.W.Frag) (Z H : Hp) (p : Addr) : MO → Prop
  | .lst ds => ∃ xs, H p = some (.lst xs) ∧ RepL K Z xs ds
  | .can => ∃ a b, H p = some (.lst [.int a, .int b]) ∧ CanOk a b
  | .dK kvs => ∃ kv, H p = some (.dK kv) ∧ All2 (KvR K Z) kv kvs
  | .dT kvs => ∃ kv, H p = some (.dT kv) ∧ All2 (KvR K Z) kv kvs
  | .ins c fs => ∃ dx fv, H p = some (.ins (He.ga K c) dx fv) ∧ All2 (KvR K Z) fv fs
  | .tab q => p = (He.cT K (q, none)).2 ∧ LamX.TabS H p (lamQ q)
/-- what is told by predicates stays -/
def Xt (H H' : Hp) : Prop := ∀ b P, H b = some (HO.ext P) → H' b = some (HO.ext P)
theorem Xt.refl (H : Hp) : Xt H H := fun _ _ h => h
theorem Xt.new {H : Hp} {p : Addr} {o : HO} (h : H p = none) : Xt H (upd H p o) := fun b P e => by rw [upd_ne (ne_of_none e h)]; exact e
theorem MOk.mono {Z Z' H H' : Hp} {p : Addr} {o : MO} (e : Ex Z Z') (h : H p = H' p) (x : Xt H H') (m : MOk K Z H p o) : MOk K Z' H' p o := by
  cases o with
  | lst ds => obtain ⟨xs, a, b⟩ := m; exact ⟨xs, by rw [← h]; exact a, b.mono e⟩
  | can => obtain ⟨x, y, a, b⟩ := m; exact ⟨x, y, by rw [← h]; exact a, b⟩
  | dK kvs => obtain ⟨xs, a, b⟩ := m; exact ⟨xs, by rw [← h]; exact a, b.imp fun _ _ z => z.mono e⟩
  | dT kvs => obtain ⟨xs, a, b⟩ := m; exact ⟨xs, by rw [← h]; exact a, b.imp fun _ _ z => z.mono e⟩
  | ins c fs => obtain ⟨dx, xs, a, b⟩ := m; exact ⟨dx, xs, by rw [← h]; exact a, b.imp fun _ _ z => z.mono e⟩
  | tab q =>
    obtain ⟨e0, ps, a, b, c⟩ := m
    refine ⟨e0, ps, by rw [← h]; exact a, b, fun pos cv hc => ?_⟩
    obtain ⟨d, e1, e2⟩ := c pos cv hc
    exact ⟨d, e1, x _ _ e2⟩
theorem MOk.some {Z H : Hp} {p : Addr} {o : MO} (m : MOk K Z H p o) : ∃ u, H p = some u := by
  cases o with
  | lst ds => obtain ⟨xs, a, b⟩ := m; exact ⟨_, a⟩
  | can => obtain ⟨x, y, a, b⟩ := m; exact ⟨_, a⟩
  | dK kvs => obtain ⟨xs, a, b⟩ := m; exact ⟨_, a⟩
  | dT kvs => obtain ⟨xs, a, b⟩ := m; exact ⟨_, a⟩
  | ins c fs => obtain ⟨dx, xs, a, b⟩ := m; exact ⟨_, a⟩
  | tab q => obtain ⟨_, ps, a, _⟩ := m; exact ⟨_, a⟩
/-- no key of M is told by a predicate -/
theorem mok_noext {Z H : Hp} {p : Addr} {o : MO} (m : MOk K Z H p o) {P : Heap → Prop} : H p ≠ some (HO.ext P) := fun z => by
  cases o with
  | lst ds => obtain ⟨xs, a, b⟩ := m; rw [a] at z; cases z
  | can => obtain ⟨x, y, a, b⟩ := m; rw [a] at z; cases z
  | dK kvs => obtain ⟨xs, a, b⟩ := m; rw [a] at z; cases z
  | dT kvs => obtain ⟨xs, a, b⟩ := m; rw [a] at z; cases z
  | ins c fs => obtain ⟨dx, xs, a, b⟩ := m; rw [a] at z; cases z
  | tab q => obtain ⟨_, ps, a, _⟩ := m; rw [a] at z; cases z
theorem Xt.upd {Z H : Hp} {p : Addr} {o : MO} {u : HO} (m : MOk K Z H p o) : Xt H (L2.upd H p u) := fun b P e => by
  rw [upd_ne fun z => mok_noext m (by rw [← z]; exact e)]; exact e
/-- Z: what never changes again; M: what may -/
structure MemAt (K : PySem.W.Frag) (Z H : Hp) (M : Mem) : Prop where
  zh : Ex Z H
  mem : ∀ p o, (p, o) ∈ M → Z p = none ∧ MOk K Z H p o
  nd : (keys M).Nodup
  nz : ∀ b ps, Z b ≠ some (.tbl ps)
structure At (K : PySem.W.Frag) (Z H : Hp) (σ : St) (ρ : Env) (M : Mem) : Prop extends MemAt K Z H M where
  sl : ∀ (i : Nat) (d : D), ρ[i]? = some (some d) → ∃ v, σ[i]? = some (some v) ∧ Rep K Z v d
  ln : ρ.length = σ.length
/-- from a state to a later one -/
structure Gr (Z H : Hp) (M : Mem) (Z' H' : Hp) (M' : Mem) : Prop where
  zz : Ex Z Z'
  new : ∀ b o, Z' b = some o → Z b = some o ∨ H b = none ∨ b ∈ keys M ∨ (∃ xs, H b = some (.tup xs)) ∨ ∃ ps, H b = some (.tbl ps)
  keep : ∀ b o, NT o → H b = some o → b ∉ keys M → H' b = some o
  kk : ∀ p ∈ keys M', p ∈ keys M ∨ H p = none ∨ ∃ ps, H p = some (.tbl ps)
theorem Gr.refl (Z H : Hp) (M : Mem) : Gr Z H M Z H M := ⟨Ex.refl Z, fun _ _ h => .inl h, fun _ _ _ h _ => h, fun _ h => .inl h⟩
theorem Gr.gone {Z H : Hp} {M : Mem} {Z' H' : Hp} {M' : Mem} (g : Gr Z H M Z' H' M') {b : Nat} (h : ∀ o, H' b = some o → ∃ ps, o = .tbl ps) : H b = none ∨ b ∈ keys M ∨ ∃ ps, H b = some (.tbl ps) := by
  by_cases hb : b ∈ keys M
  · exact .inr (.inl hb)
  · cases q : H b with
    | none => exact .inl rfl
    | some o =>
      rcases nt_or o with n | ⟨ps, rfl⟩
      · obtain ⟨ps, z⟩ := h o (g.keep b o n q hb)
        exact absurd z (n.nt ps)
      · exact .inr (.inr ⟨ps, rfl⟩)
theorem gone_none {H : Hp} {b : Nat} (h : H b = none) : ∀ o, H b = some o → ∃ ps, o = HO.tbl ps := fun o z => by rw [h] at z; cases z
theorem gone_tbl {H : Hp} {b : Nat} {ps : Array Value} (h : H b = some (.tbl ps)) : ∀ o, H b = some o → ∃ ps, o = HO.tbl ps := fun o z => by rw [h] at z; cases z; exact ⟨_, rfl⟩
theorem Gr.trans {Z H : Hp} {M : Mem} {Z1 H1 : Hp} {M1 : Mem} {Z2 H2 : Hp} {M2 : Mem} (a : Gr Z H M Z1 H1 M1) (b : Gr Z1 H1 M1 Z2 H2 M2) : Gr Z H M Z2 H2 M2 where
  zz := a.zz.trans b.zz
  new := fun p o h => by
    have go : (H p = none ∨ p ∈ keys M ∨ ∃ ps, H p = some (.tbl ps)) → Z p = some o ∨ H p = none ∨ p ∈ keys M ∨ (∃ xs, H p = some (.tup xs)) ∨ ∃ ps, H p = some (.tbl ps) := fun z => by
      rcases z with z | z | z
      · exact .inr (.inl z)
      · exact .inr (.inr (.inl z))
      · exact .inr (.inr (.inr (.inr z)))
    rcases b.new p o h with h | h | h | ⟨xs, h⟩ | ⟨ps, h⟩
    · exact a.new p o h
    · exact go (a.gone (gone_none h))
    · rcases a.kk p h with z | z | z
      · exact .inr (.inr (.inl z))
      · exact .inr (.inl z)
      · exact .inr (.inr (.inr (.inr z)))
    · by_cases hp : p ∈ keys M
      · exact .inr (.inr (.inl hp))
      · cases q : H p with
        | none => exact .inr (.inl rfl)
        | some u =>
          rcases nt_or u with n | ⟨ps, rfl⟩
          · rw [a.keep p u n q hp] at h; exact .inr (.inr (.inr (.inl ⟨xs, h⟩)))
          · exact .inr (.inr (.inr (.inr ⟨ps, rfl⟩)))
    · exact go (a.gone (gone_tbl h))
  keep := fun p o n h hp => b.keep p o n (a.keep p o n h hp) fun z => by
    rcases a.kk p z with q | q | ⟨ps, q⟩
    · exact hp q
    · rw [h] at q; cases q
    · rw [h] at q; exact n.nt ps (Option.some.inj q)
  kk := fun p h => by
    rcases b.kk p h with h | h | ⟨ps, h⟩
    · exact a.kk p h
    · rcases a.gone (gone_none h) with z | z | z
      · exact .inr (.inl z)
      · exact .inl z
      · exact .inr (.inr z)
    · rcases a.gone (gone_tbl h) with z | z | z
      · exact .inr (.inl z)
      · exact .inl z
      · exact .inr (.inr z)
theorem nz_upd {Z : Hp} (h : ∀ b ps, Z b ≠ some (.tbl ps)) {p : Addr} {o : HO} (n : NT o) : ∀ b ps, upd Z p o b ≠ some (.tbl ps) := fun b ps z => by
  by_cases hb : b = p
  · rw [hb, upd_same] at z; exact n.nt ps (Option.some.inj z)
  · rw [upd_ne hb] at z; exact h b ps z
/-- an exception as it lies: its class, its dict -/
def ExR (K : PySem.W.Frag) (Z H : Hp) : Exn → Value → Option Addr → Prop
  | .mk c f, cls, d => cls = .ref (He.ga K c) ∧ match f with
    | none => d = none
    | some (n, x) => ∃ a v, d = some a ∧ H a = some (.xd [(n, v)]) ∧ Rep K Z v x

/-! ### transformers, told over the heap -/
/-- what stands ahead of an expression, and what is wanted behind it -/
structure Go {α β : Type} (K : PySem.W.Frag) (W : WX) (rel : Hp → β → α → Prop) (σ : St) (ρ : Env) (Z H : Hp) (M : Mem) (Qd : α → Mem → Prop) (Rd : DR) (Q : β → Hp → Prop) : Prop where
  at_ : At K Z H σ ρ M
  k : ∀ Z' H' M' v d, Gr Z H M Z' H' M' → At K Z' H' σ ρ M' → rel Z' v d → Qd d M' → Q v H'
  r : ∀ Z' H' M' ex cls dd, Gr Z H M Z' H' M' → At K Z' H' σ ρ M' → ExR K Z' H' ex cls dd → Rd ex ρ M' → W cls dd σ H'
def lf {α β : Type} (K : PySem.W.Frag) (W : WX) (rel : Hp → β → α → Prop) (T : DX α) : St → Hp → (β → Hp → Prop) → Prop := fun σ H Q =>
  ∃ Z ρ M Qd Rd, Go K W rel σ ρ Z H M Qd Rd Q ∧ T ρ M Qd Rd
abbrev lE (K : PySem.W.Frag) (W : WX) (T : DTE) : TE := lf K W (Rep K) T
abbrev eqR {α : Type} : Hp → α → α → Prop := fun _ b b' => b = b'
abbrev lT (K : PySem.W.Frag) (W : WX) (T : DTT) : TT := lf K W eqR T
abbrev lA (K : PySem.W.Frag) (W : WX) (T : DTA) : TA := lf K W (RepL K) T
section
variable {W : WX} {σ : St} {ρ : Env} {Z H Z1 H1 : Hp} {M M1 : Mem} {Rd : DR} {α β γ δ : Type} {rel : Hp → β → α → Prop} {rel1 : Hp → δ → γ → Prop} {Qd : α → Mem → Prop} {Q : β → Hp → Prop}
theorem Go.step (G : Go K W rel σ ρ Z H M Qd Rd Q) (g : Gr Z H M Z1 H1 M1) (a : At K Z1 H1 σ ρ M1) : Go K W rel σ ρ Z1 H1 M1 Qd Rd Q :=
  ⟨a, fun Z' H' M' v d g' => G.k Z' H' M' v d (g.trans g'), fun Z' H' M' ex cls dd g' => G.r Z' H' M' ex cls dd (g.trans g')⟩
/-- one part, then what follows -/
theorem Go.seq {T1 : DX γ} {Q1 : γ → Mem → Prop} {Q' : δ → Hp → Prop} (G : Go K W rel σ ρ Z H M Qd Rd Q) (h : T1 ρ M Q1 Rd)
    (k : ∀ Z1 H1 M1 v x, Go K W rel σ ρ Z1 H1 M1 Qd Rd Q → Ex Z Z1 → rel1 Z1 v x → Q1 x M1 → Q' v H1) : lf K W rel1 T1 σ H Q' :=
  ⟨Z, ρ, M, Q1, Rd, ⟨G.at_, fun Z' H' M' v d g a r q => k Z' H' M' v d (G.step g a) g.zz r q, G.r⟩, h⟩
/-- the value is there, nothing has changed -/
theorem Go.val (G : Go K W rel σ ρ Z H M Qd Rd Q) {v : β} {d : α} (r : rel Z v d) (q : Qd d M) : Q v H := G.k Z H M v d (Gr.refl Z H M) G.at_ r q
/-- a new object that never changes -/
theorem At.new (a : At K Z H σ ρ M) {p : Addr} {o : HO} [n : NT o] (h : H p = none) : Gr Z H M (upd Z p o) (upd H p o) M ∧ At K (upd Z p o) (upd H p o) σ ρ M := by
  have hz : Z p = none := a.zh.free h
  have hk : ∀ q u, (q, u) ∈ M → q ≠ p := fun q u hq => by
    obtain ⟨w, e⟩ := (a.mem q u hq).2.some
    exact ne_of_none e h
  refine ⟨⟨Ex.new hz, fun b u e => ?_, fun b u _ e hb => ?_, fun q hq => .inl hq⟩, ⟨⟨fun b u e => ?_, fun q u hq => ⟨?_, ?_⟩, a.nd, nz_upd a.nz n⟩, fun i d e => ?_, a.ln⟩⟩
  · by_cases hb : b = p
    · exact .inr (.inl (by rw [hb]; exact h))
    · rw [upd_ne hb] at e; exact .inl e
  · rw [upd_ne (ne_of_none e h)]; exact e
  · by_cases hb : b = p
    · rw [hb, upd_same] at e ⊢; exact e
    · rw [upd_ne hb] at e ⊢; exact a.zh b u e
  · rw [upd_ne (hk q u hq)]; exact (a.mem q u hq).1
  · exact (a.mem q u hq).2.mono (Ex.new hz) (by rw [upd_ne (hk q u hq)]) (Xt.new h)
  · obtain ⟨v, e1, r⟩ := a.sl i d e
    exact ⟨v, e1, r.mono (Ex.new hz)⟩
/-- a new object that may change -/
theorem At.newM (a : At K Z H σ ρ M) {p : Addr} {o : HO} {m : MO} (h : H p = none) (hm : MOk K Z (upd H p o) p m) : Gr Z H M Z (upd H p o) ((p, m) :: M) ∧ At K Z (upd H p o) σ ρ ((p, m) :: M) ∧ p ∉ keys M := by
  have hz : Z p = none := a.zh.free h
  have hk : ∀ q u, (q, u) ∈ M → q ≠ p := fun q u hq => by
    obtain ⟨w, e⟩ := (a.mem q u hq).2.some
    exact ne_of_none e h
  have np : p ∉ keys M := fun z => by
    obtain ⟨x, hx, e⟩ := List.mem_map.mp z
    exact hk x.1 x.2 hx e
  refine ⟨⟨Ex.refl Z, fun b u e => .inl e, fun b u _ e hb => ?_, fun q hq => ?_⟩, ⟨⟨fun b u e => ?_, fun q u hq => ?_, ?_, a.nz⟩, a.sl, a.ln⟩, np⟩
  · rw [upd_ne (ne_of_none e h)]; exact e
  · rcases List.mem_cons.mp (show q ∈ p :: keys M from hq) with e | e
    · rw [e]; exact .inr (.inl h)
    · exact .inl e
  · rw [upd_ne (ne_of_none e hz)]; exact a.zh b u e
  · rcases List.mem_cons.mp hq with e | e
    · cases e; exact ⟨hz, hm⟩
    · exact ⟨(a.mem q u e).1, (a.mem q u e).2.mono (Ex.refl Z) (by rw [upd_ne (hk q u e)]) (Xt.new h)⟩
  · exact List.nodup_cons.mpr ⟨np, a.nd⟩
theorem Go.new (G : Go K W rel σ ρ Z H M Qd Rd Q) {p : Addr} {o : HO} [n : NT o] {v : β} {d : α} (h : H p = none) (r : rel (upd Z p o) v d) (q : Qd d M) : Q v (upd H p o) :=
  G.k _ _ M v d (G.at_.new h).1 (G.at_.new h).2 r q
theorem Go.newM (G : Go K W rel σ ρ Z H M Qd Rd Q) {p : Addr} {o : HO} {m : MO} {v : β} {d : α} (h : H p = none) (hm : MOk K Z (upd H p o) p m) (r : rel Z v d) (q : p ∉ keys M → Qd d ((p, m) :: M)) : Q v (upd H p o) :=
  G.k _ _ _ v d (G.at_.newM h hm).1 (G.at_.newM h hm).2.1 r (q (G.at_.newM h hm).2.2)
end
end Dl
namespace Dl
open PySem L2
/-! # Expressions -/
section
variable {X : Cx} {W : WX}
theorem wkE {e : Expr} {t t' : TE} (h : PE X e t) (w : ∀ σ H Q, t' σ H Q → t σ H Q) : PE X e t' := ⟨fun p s σ H Q I q => h.run p s σ H Q I (w σ H Q q)⟩
theorem wkT {e : Expr} {t t' : TT} (h : PT X e t) (w : ∀ σ H Q, t' σ H Q → t σ H Q) : PT X e t' := ⟨fun p s σ H Q I q => h.run p s σ H Q I (w σ H Q q)⟩
theorem wkW {e : Expr} {t t' : TT} (h : PW X e t) (w : ∀ σ H Q, t' σ H Q → t σ H Q) : PW X e t' := ⟨fun wh p s σ H Q I q => h.run wh p s σ H Q I (w σ H Q q)⟩
theorem wkA {e : List Expr} {t t' : TA} (h : PA X e t) (w : ∀ σ H Q, t' σ H Q → t σ H Q) : PA X e t' := ⟨fun pos p s σ H Q I q => h.run pos p s σ H Q I (w σ H Q q)⟩
theorem wkI {tg e : Expr} {t t' : TI} (h : PI X tg e t) (w : ∀ σ H Q, t' σ H Q → t σ H Q) : PI X tg e t' := ⟨fun p s σ H Q I q => h.run p s σ H Q I (w σ H Q q)⟩
theorem wkS {e : Stmt} {t t' : TS} (h : PS X e t) (w : ∀ D σ H, t' D σ H → t D σ H) : PS X e t' := ⟨fun p s σ H D I q => h.run p s σ H D I (w D σ H q)⟩
theorem wkSs {e : List Stmt} {t t' : TS} (h : PSs X e t) (w : ∀ D σ H, t' D σ H → t D σ H) : PSs X e t' := ⟨fun p s σ H D I q => h.run p s σ H D I (w D σ H q)⟩
theorem wkG {e : Expr} {t t' : TG} (h : PG X e t) (w : ∀ v σ H Q, t' v σ H Q → t v σ H Q) : PG X e t' := ⟨fun p s σ H v u Q I r q => h.run p s σ H v u Q I r (w v σ H Q q)⟩
theorem wkGs {e : List Expr} {t t' : TGs} (h : PGs X e t) (w : ∀ v σ H Q, t' v σ H Q → t v σ H Q) : PGs X e t' := ⟨fun p s σ H v u Q I r q => h.run p s σ H v u Q I r (w v σ H Q q)⟩
abbrev DE (X : Cx) (W : WX) (e : Expr) (T : DTE) : Prop := PE X e (lE X.K W T)
abbrev DT (X : Cx) (W : WX) (e : Expr) (T : DTT) : Prop := PT X e (lT X.K W T)
abbrev DW (X : Cx) (W : WX) (e : Expr) (T : DTT) : Prop := PW X e (lT X.K W T)
abbrev DA (X : Cx) (W : WX) (es : List Expr) (T : DTA) : Prop := PA X es (lA X.K W T)
end

/-! ### transformers -/
def dVar (i : Nat) : DTE := fun ρ M Q _ => match nth ρ i with
  | some d => Q d M
  | none => False
def dC (d : D) : DTE := fun _ M Q _ => Q d M
def dOp (o : D → D → Mem → DQ → Prop) (a b : DTE) : DTE := fun ρ M Q R => a ρ M (fun x M1 => b ρ M1 (fun y M2 => o x y M2 Q) R) R
def dUn (o : D → Mem → DQ → Prop) (a : DTE) : DTE := fun ρ M Q R => a ρ M (fun x M1 => o x M1 Q) R
/-- a value that is a bool, as a test -/
def dTst (a : DTE) : DTT := fun ρ M Q R => a ρ M (fun x M1 => match x with
  | .bl b => Q b M1
  | _ => False) R
def dAnd (a b : DTT) : DTT := fun ρ M Q R => a ρ M (fun c M1 => if c = true then b ρ M1 Q R else Q false M1) R
def dOr (a b : DTT) : DTT := fun ρ M Q R => a ρ M (fun c M1 => if c = true then Q true M1 else b ρ M1 Q R) R
def dNot (a : DTT) : DTT := fun ρ M Q R => a ρ M (fun c M1 => Q (!c) M1) R
/-- and, or, not as values -/
def dAndV (a b : DTE) : DTE := fun ρ M Q R => a ρ M (fun x M1 => match x with
  | .bl c => if c = true then b ρ M1 Q R else Q (.bl false) M1
  | _ => False) R
def dOrV (a b : DTE) : DTE := fun ρ M Q R => a ρ M (fun x M1 => match x with
  | .bl c => if c = true then Q (.bl true) M1 else b ρ M1 Q R
  | _ => False) R
def dNotV (a : DTE) : DTE := fun ρ M Q R => a ρ M (fun x M1 => match x with
  | .bl c => Q (.bl (!c)) M1
  | _ => False) R
def dIfE (c : DTT) (a b : DTE) : DTE := fun ρ M Q R => c ρ M (fun k M1 => if k = true then a ρ M1 Q R else b ρ M1 Q R) R
def dNil : DTA := fun _ M Q _ => Q [] M
def dCons (a : DTE) (r : DTA) : DTA := fun ρ M Q R => a ρ M (fun x M1 => r ρ M1 (fun xs M2 => Q (x :: xs) M2) R) R
def dTup (a : DTA) : DTE := fun ρ M Q R => a ρ M (fun xs M1 => xs.length ≤ 100000 ∧ Q (.tup xs) M1) R
def dLst (a : DTA) : DTE := fun ρ M Q R => a ρ M (fun xs M1 => xs.length ≤ 100000 ∧ Q (.lst xs) M1) R
/-- a list that is to change yet -/
def dNew (a : DTA) : DTE := fun ρ M Q R => a ρ M (fun xs M1 => xs.length ≤ 100000 ∧ ∀ p, p ∉ keys M1 → Q (.obj p) ((p, .lst xs) :: M1)) R
def dCall (S : DSp) (a : DTA) : DTE := fun ρ M Q R => a ρ M (fun xs M1 => S xs M1 Q (fun ex M2 => R ex ρ M2)) R
/-- a built-in of values -/
def dB (S : List D → Mem → DQ → Prop) (a : DTA) : DTE := fun ρ M Q R => a ρ M (fun xs M1 => S xs M1 Q) R
/-- a < b < c -/
def dChain (o o' : D → D → Mem → DQ → Prop) (a b c : DTE) : DTE := fun ρ M Q R => a ρ M (fun x M1 => b ρ M1 (fun y M2 => o x y M2 fun z M3 => match z with
  | .bl k => if k = true then c ρ M3 (fun w M4 => o' y w M4 Q) R else Q (.bl false) M3
  | _ => False) R) R

/-! ### soundness -/
theorem sz {n : Nat} (h : n ≤ 100000) : n ≤ sizeLine := Nat.le_trans h (by decide)
/-- an operation on values -/
def OpD (K : PySem.W.Frag) (r : R2) (o : D → D → Mem → DQ → Prop) : Prop :=
  ∀ {W : WX} {σ : St} {ρ : Env} {Z H : Hp} {M : Mem} {Qd : DQ} {Rd : DR} {Q : VK} {v w : V} {x y : D}, Go K W (Rep K) σ ρ Z H M Qd Rd Q → Rep K Z v x → Rep K Z w y → o x y M Qd → r v w H Q
def UnD (K : PySem.W.Frag) (r : V → Hp → VK → Prop) (o : D → Mem → DQ → Prop) : Prop :=
  ∀ {W : WX} {σ : St} {ρ : Env} {Z H : Hp} {M : Mem} {Qd : DQ} {Rd : DR} {Q : VK} {v : V} {x : D}, Go K W (Rep K) σ ρ Z H M Qd Rd Q → Rep K Z v x → o x M Qd → r v H Q
/-- a built-in's call on values -/
def CallD (K : PySem.W.Frag) (r : List V → Hp → VK → Prop) (S : List D → Mem → DQ → Prop) : Prop :=
  ∀ {W : WX} {σ : St} {ρ : Env} {Z H : Hp} {M : Mem} {Qd : DQ} {Rd : DR} {Q : VK} {vs : List V} {xs : List D}, Go K W (Rep K) σ ρ Z H M Qd Rd Q → RepL K Z vs xs → S xs M Qd → r vs H Q
section
variable {X : Cx} {W : WX} {a b c e : Expr} {es rest : List Expr} {pos p : Pos} {Ta Tb Tc : DTE} {A B : DTT} {TA TR : DTA} {K : PySem.W.Frag} {o o' : D → D → Mem → DQ → Prop} {r r' : R2}
theorem de_var (i : Nat) {x : Str} (hN : X.N[i]? = some x := by rfl) (hv : Vis X.env.scope x := by first | exact Or.inl rfl | exact Or.inr (Or.inl rfl) | exact Or.inr (Or.inr rfl))
    (hd : (x == ("__debug__" : Str)) = false := by decide) (hcd : (x == ("__classdict__" : Str)) = false := by decide) : DE X W (.Name x pos) (dVar i) := by
  refine wkE (pv i hN hv hd hcd) fun σ H Q h => ?_
  obtain ⟨Z, ρ, M, Qd, Rd, G, h⟩ := h
  unfold dVar at h
  cases q : nth ρ i with
  | none => rw [q] at h; exact h.elim
  | some d =>
    rw [q] at h
    obtain ⟨v, e1, rv⟩ := G.at_.sl i d ((nth_eq ρ i d).mp q)
    exact ⟨v, e1, G.val rv h⟩
theorem de_c {v : V} {d : D} (he : PE X e (tC v)) (rv : ∀ Z, Rep X.K Z v d) : DE X W e (dC d) :=
  wkE he fun σ H Q ⟨Z, ρ, M, Qd, Rd, G, h⟩ => G.val (rv Z) h
theorem de_int {i : Int} {j : Nat} : DE X W (.Constant (.int i) j pos) (dC (.int i)) := de_c pe_int fun _ => .int i
theorem de_bl {i : Bool} {j : Nat} : DE X W (.Constant (.bool i) j pos) (dC (.bl i)) := de_c pe_bl fun _ => .bl i
theorem de_non {j : Nat} : DE X W (.Constant .none j pos) (dC .non) := de_c pe_non fun _ => .non
theorem de_str {i : Str} {j : Nat} : DE X W (.Constant (.str i) j pos) (dC (.str i)) := de_c pe_str fun _ => .str i
/-- a constant of the module; a def, a class as a value -/
theorem de_gint {x : Str} {i : Int} (hm : ∃ t, X.mg x = some (.int i t)) (hg : Gl X x := by rfl) (hd : (x == ("__debug__" : Str)) = false := by decide) : DE X W (.Name x pos) (dC (.int i)) := by
  obtain ⟨t, hm⟩ := hm
  exact de_c (pe_glob hg hm (v := .int i) ⟨t, rfl⟩ hd) fun _ => .int i
theorem de_gstr {x z : Str} (hm : ∃ t, X.mg x = some (.str z t)) (hg : Gl X x := by rfl) (hd : (x == ("__debug__" : Str)) = false := by decide) : DE X W (.Name x pos) (dC (.str z)) := by
  obtain ⟨t, hm⟩ := hm
  exact de_c (pe_glob hg hm (v := .str z) ⟨t, rfl⟩ hd) fun _ => .str z
theorem de_gfn {x : Str} (hm : X.mg x = some (.ref (He.ga X.K x))) (hg : Gl X x := by rfl) (hd : (x == ("__debug__" : Str)) = false := by decide) : DE X W (.Name x pos) (dC (.fn x)) :=
  de_c (pe_glob hg hm (v := .ref (He.ga X.K x)) rfl hd) fun _ => .fn x
theorem dOp_ok (hd : OpD K r o) {σ : St} {H : Hp} {Q : VK} (h : lE K W (dOp o Ta Tb) σ H Q) : tOp r (lE K W Ta) (lE K W Tb) σ H Q := by
  obtain ⟨Z, ρ, M, Qd, Rd, G, h⟩ := h
  refine G.seq (rel1 := Rep K) h fun Z1 H1 M1 v x G1 _ rx h1 => ?_
  refine G1.seq (rel1 := Rep K) h1 fun Z2 H2 M2 w y G2 e2 ry h2 => ?_
  exact hd G2 (rx.mono e2) ry h2
theorem de_bin {op : Operator} (ho : OpR X (binaryOp op) r) (hd : OpD X.K r o) (ha : DE X W a Ta) (hb : DE X W b Tb) : DE X W (.BinOp a op b pos) (dOp o Ta Tb) :=
  wkE (pe_op ho ha hb) fun _ _ _ h => dOp_ok hd h
theorem de_un {op : UnaryOp} {r : V → Hp → VK → Prop} {o : D → Mem → DQ → Prop} (ho : UnR X (unaryOp op) r) (hd : UnD X.K r o) (ha : DE X W a Ta) : DE X W (.UnaryOp op a pos) (dUn o Ta) :=
  wkE (pe_un ho ha) fun σ H Q ⟨Z, ρ, M, Qd, Rd, G, h⟩ => G.seq (rel1 := Rep X.K) h fun Z1 H1 M1 v x G1 _ rx h1 => hd G1 rx h1
theorem de_cmp {op : CmpOp} (ho : OpR X (compareOp op) r) (hd : OpD X.K r o) (ha : DE X W a Ta) (hb : DE X W b Tb) (hm : behindInMarks op b = false) : DE X W (.Compare a [op] [b] pos) (dOp o Ta Tb) :=
  wkE (pe_cmpR ho ha hb hm) fun _ _ _ h => dOp_ok hd h
theorem tst_ok {T : DTE} {t : TE} (w : ∀ σ H Q, lE K W T σ H Q → t σ H Q) {σ : St} {H : Hp} {Q : Bool → Hp → Prop} (h : lT K W (dTst T) σ H Q) : tTest t σ H Q := by
  obtain ⟨Z, ρ, M, Qd, Rd, G, h⟩ := h
  refine w _ _ _ (G.seq (rel1 := Rep K) h fun Z1 H1 M1 v x G1 _ rx h1 => ?_)
  cases x with
  | bl k => cases rx; exact ⟨k, rfl, G1.val (rel := eqR) rfl h1⟩
  | _ => exact h1.elim
theorem dt_cmp {op : CmpOp} (ho : OpR X (compareOp op) r) (hd : OpD X.K r o) (ha : DE X W a Ta) (hb : DE X W b Tb) (hm : behindInMarks op b = false) : DT X W (.Compare a [op] [b] pos) (dTst (dOp o Ta Tb)) :=
  wkT (pt_cmpR ho ha hb hm) fun _ _ _ h => tst_ok (fun _ _ _ => dOp_ok hd) h
theorem dt_val (ha : DE X W e Ta) (he : ∀ whole, isTrue e X.env whole = (do let v ← whole; standAt e.pos; holding [v] (truthy v)) := by intro _; rfl) : DT X W e (dTst Ta) :=
  wkT (pt_val ha he) fun _ _ _ h => tst_ok (fun _ _ _ q => q) h
theorem dChain_ok (hd : OpD K r o) (hd' : OpD K r' o') {σ : St} {H : Hp} {Q : VK} (h : lE K W (dChain o o' Ta Tb Tc) σ H Q) : tChain r r' (lE K W Ta) (lE K W Tb) (lE K W Tc) σ H Q := by
  obtain ⟨Z, ρ, M, Qd, Rd, G, h⟩ := h
  refine G.seq (rel1 := Rep K) h fun Z1 H1 M1 v x G1 _ rx h1 => ?_
  refine G1.seq (rel1 := Rep K) h1 fun Z2 H2 M2 w y G2 e2 ry h2 => ?_
  refine hd (Qd := fun z M3 => match z with
    | .bl k => if k = true then Tc ρ M3 (fun w M4 => o' y w M4 Qd) Rd else Qd (.bl false) M3
    | _ => False) (Rd := Rd) (W := W) (σ := σ) (ρ := ρ) ⟨G2.at_, fun Z' H' M' z d g a rz q => ?_, G2.r⟩ (rx.mono e2) ry h2
  have G3 := G2.step g a
  cases d with
  | bl k =>
    cases rz
    refine ⟨k, rfl, ?_⟩
    dsimp only at q
    by_cases hk : k = true
    · rw [if_pos hk] at q ⊢
      exact G3.seq (rel1 := Rep K) q fun Z4 H4 M4 w' y' G4 e4 ry' h4 => hd' G4 ((ry.mono g.zz).mono e4) ry' h4
    · rw [if_neg hk] at q ⊢
      exact G3.val (.bl false) q
  | _ => exact q.elim
theorem de_chain {op op' : CmpOp} (ho : OpR X (compareOp op) r) (ho' : OpR X (compareOp op') r') (hd : OpD X.K r o) (hd' : OpD X.K r' o') (ha : DE X W a Ta) (hb : DE X W b Tb) (hc : DE X W c Tc)
    (hm : lastMarks [op, op'] [b, c] = false := by with_unfolding_all rfl) : DE X W (.Compare a [op, op'] [b, c] pos) (dChain o o' Ta Tb Tc) :=
  wkE (pe_chain ho ho' ha hb hc hm) fun _ _ _ h => dChain_ok hd hd' h
theorem dt_chain {op op' : CmpOp} (ho : OpR X (compareOp op) r) (ho' : OpR X (compareOp op') r') (hd : OpD X.K r o) (hd' : OpD X.K r' o') (ha : DE X W a Ta) (hb : DE X W b Tb) (hc : DE X W c Tc)
    (hm : lastMarks [op, op'] [b, c] = false := by with_unfolding_all rfl) : DT X W (.Compare a [op, op'] [b, c] pos) (dTst (dChain o o' Ta Tb Tc)) :=
  wkT (pt_chain ho ho' ha hb hc hm) fun _ _ _ h => tst_ok (fun _ _ _ => dChain_ok hd hd') h
theorem dw_and1 (ha : DT X W a A) : DW X W (.BoolOp .And [a] pos) A := pw_and1 ha
theorem dw_or1 (ha : DT X W a A) : DW X W (.BoolOp .Or [a] pos) A := pw_or1 ha
theorem dw_and (ha : DT X W a A) (hb : DW X W (.BoolOp .And (b :: rest) pos) B) : DW X W (.BoolOp .And (a :: b :: rest) pos) (dAnd A B) :=
  wkW (pw_and ha hb) fun σ H Q ⟨Z, ρ, M, Qd, Rd, G, h⟩ => G.seq (rel1 := eqR) h fun Z1 H1 M1 v x G1 _ rx h1 => by
    cases (show v = x from rx)
    by_cases hk : v = true
    · rw [if_pos hk] at h1 ⊢; exact ⟨_, _, _, _, _, G1, h1⟩
    · rw [if_neg hk] at h1 ⊢; exact G1.val (rel := eqR) rfl h1
theorem dw_or (ha : DT X W a A) (hb : DW X W (.BoolOp .Or (b :: rest) pos) B) : DW X W (.BoolOp .Or (a :: b :: rest) pos) (dOr A B) :=
  wkW (pw_or ha hb) fun σ H Q ⟨Z, ρ, M, Qd, Rd, G, h⟩ => G.seq (rel1 := eqR) h fun Z1 H1 M1 v x G1 _ rx h1 => by
    cases (show v = x from rx)
    by_cases hk : v = true
    · rw [if_pos hk] at h1 ⊢; exact G1.val (rel := eqR) rfl h1
    · rw [if_neg hk] at h1 ⊢; exact ⟨_, _, _, _, _, G1, h1⟩
theorem dt_not (ha : DT X W a A) : DT X W (.UnaryOp .Not a pos) (dNot A) :=
  wkT (pt_not ha) fun σ H Q ⟨Z, ρ, M, Qd, Rd, G, h⟩ => G.seq (rel1 := eqR) h fun Z1 H1 M1 v x G1 _ rx h1 => by
    cases (show v = x from rx)
    exact G1.val (rel := eqR) rfl h1
theorem de_not (ha : DE X W a Ta) : DE X W (.UnaryOp .Not a pos) (dNotV Ta) :=
  wkE (pe_not ha) fun σ H Q ⟨Z, ρ, M, Qd, Rd, G, h⟩ => G.seq (rel1 := Rep X.K) h fun Z1 H1 M1 v x G1 _ rx h1 => by
    cases x with
    | bl k => cases rx; exact ⟨k, rfl, G1.val (.bl _) h1⟩
    | _ => exact h1.elim
theorem de_ifE (hc : DT X W c A) (ha : DE X W a Ta) (hb : DE X W b Tb) : DE X W (.IfExp c a b pos) (dIfE A Ta Tb) :=
  wkE (pe_ifExp hc ha hb) fun σ H Q ⟨Z, ρ, M, Qd, Rd, G, h⟩ => G.seq (rel1 := eqR) h fun Z1 H1 M1 v x G1 _ rx h1 => by
    cases (show v = x from rx)
    by_cases hk : v = true
    · rw [if_pos hk] at h1 ⊢; exact ⟨_, _, _, _, _, G1, h1⟩
    · rw [if_neg hk] at h1 ⊢; exact ⟨_, _, _, _, _, G1, h1⟩
theorem da_nil : DA X W [] dNil := wkA pa_nil fun σ H Q ⟨Z, ρ, M, Qd, Rd, G, h⟩ => G.val .nil h
theorem da_cons (ha : DE X W e Ta) (hr : DA X W es TR) (hs : starEach (e :: es) X.env = (false, eval e X.env) :: starEach es X.env := by rfl) : DA X W (e :: es) (dCons Ta TR) :=
  wkA (pa_cons ha hr hs) fun σ H Q ⟨Z, ρ, M, Qd, Rd, G, h⟩ => G.seq (rel1 := Rep X.K) h fun Z1 H1 M1 v x G1 _ rx h1 =>
    G1.seq (rel1 := RepL X.K) h1 fun Z2 H2 M2 vs xs G2 e2 rs h2 => G2.val (.cons (rx.mono e2) rs) h2
theorem de_tup {x1 : Nat} (h : DA X W es TA) : DE X W (.Tuple es x1 pos) (dTup TA) :=
  wkE (pe_tup h) fun σ H Q ⟨Z, ρ, M, Qd, Rd, G, h⟩ => G.seq (rel1 := RepL X.K) h fun Z1 H1 M1 vs xs G1 _ rs h1 =>
    ⟨by rw [rs.length]; exact sz h1.1, fun p hp => G1.new (o := .tup vs) hp (.tup upd_same (rs.mono (Ex.new (G1.at_.zh.free hp)))) h1.2⟩
theorem de_lst (h : DA X W es TA) : DE X W (.List es pos) (dLst TA) :=
  wkE (pe_lst h) fun σ H Q ⟨Z, ρ, M, Qd, Rd, G, h⟩ => G.seq (rel1 := RepL X.K) h fun Z1 H1 M1 vs xs G1 _ rs h1 =>
    ⟨by rw [rs.length]; exact sz h1.1, fun p hp => G1.new (o := .lst vs) hp (.lst upd_same (rs.mono (Ex.new (G1.at_.zh.free hp)))) h1.2⟩
theorem de_new (h : DA X W es TA) : DE X W (.List es pos) (dNew TA) :=
  wkE (pe_lst h) fun σ H Q ⟨Z, ρ, M, Qd, Rd, G, h⟩ => G.seq (rel1 := RepL X.K) h fun Z1 H1 M1 vs xs G1 _ rs h1 =>
    ⟨by rw [rs.length]; exact sz h1.1, fun p hp => G1.newM (o := .lst vs) (m := .lst xs) hp ⟨vs, upd_same, rs⟩ (.obj p) (h1.2 p)⟩
/-- and, or as values -/
theorem de_and1 (ha : DE X W a Ta) : DE X W (.BoolOp .And [a] pos) Ta := pe_one ha
theorem de_or1 (ha : DE X W a Ta) : DE X W (.BoolOp .Or [a] pos) Ta := pe_one ha
theorem de_and (ha : DE X W a Ta) (hb : DE X W (.BoolOp .And (b :: rest) pos) Tb) : DE X W (.BoolOp .And (a :: b :: rest) pos) (dAndV Ta Tb) :=
  wkE (pe_and ha hb) fun σ H Q ⟨Z, ρ, M, Qd, Rd, G, h⟩ => G.seq (rel1 := Rep X.K) h fun Z1 H1 M1 v x G1 _ rx h1 => by
    cases x with
    | bl k =>
      cases rx
      refine ⟨k, rfl, ?_⟩
      by_cases hk : k = true
      · rw [if_pos hk]; dsimp only at h1; rw [if_pos hk] at h1; exact ⟨_, _, _, _, _, G1, h1⟩
      · rw [if_neg hk]; dsimp only at h1; rw [if_neg hk] at h1; exact G1.val (.bl false) h1
    | _ => exact h1.elim
theorem de_or (ha : DE X W a Ta) (hb : DE X W (.BoolOp .Or (b :: rest) pos) Tb) : DE X W (.BoolOp .Or (a :: b :: rest) pos) (dOrV Ta Tb) :=
  wkE (pe_or ha hb) fun σ H Q ⟨Z, ρ, M, Qd, Rd, G, h⟩ => G.seq (rel1 := Rep X.K) h fun Z1 H1 M1 v x G1 _ rx h1 => by
    cases x with
    | bl k =>
      cases rx
      refine ⟨k, rfl, ?_⟩
      by_cases hk : k = true
      · rw [if_pos hk]; dsimp only at h1; rw [if_pos hk] at h1; exact G1.val (.bl true) h1
      · rw [if_neg hk]; dsimp only at h1; rw [if_neg hk] at h1; exact ⟨_, _, _, _, _, G1, h1⟩
    | _ => exact h1.elim
end
end Dl
namespace Dl
open PySem L2
/-! # Statements, loops, comprehensions, defs -/
/-! ### transformers -/
def dNext : DTS := fun E ρ M _ => E.nx ρ M
def dSeq (t u : DTS) : DTS := fun E ρ M R => t { E with nx := fun ρ1 M1 => u E ρ1 M1 R } ρ M R
def dDrop (a : DTE) : DTS := fun E ρ M R => a ρ M (fun _ M1 => E.nx ρ M1) R
def dRet (a : DTE) : DTS := fun E ρ M R => a ρ M E.rt R
def dRetN : DTS := fun E _ M _ => E.rt .non M
def dIf (c : DTT) (t u : DTS) : DTS := fun E ρ M R => c ρ M (fun k M1 => if k = true then t E ρ M1 R else u E ρ M1 R) R
def dAsg (a : DTE) (g : DTG) : DTS := fun E ρ M R => a ρ M (fun x M1 => g x ρ M1 E.nx) R
def gN (i : Nat) : DTG := fun d ρ M Q => Q (put ρ i d) M
/-- several targets, one after another -/
def gSeq : List DTG → List D → Env → Mem → (Env → Mem → Prop) → Prop
  | [], [], ρ, M, Q => Q ρ M
  | g :: gs, d :: ds, ρ, M, Q => g d ρ M fun ρ1 M1 => gSeq gs ds ρ1 M1 Q
  | _, _, _, _, _ => False
def gT (gs : List DTG) : DTG := fun d ρ M Q => match d with
  | .tup ds => gSeq gs ds ρ M Q
  | _ => False
/-- a, b = x, y of plain names: stored from the right -/
def dPar2 (i j : Nat) (a : DTA) : DTS := fun E ρ M R => a ρ M (fun xs M1 => match xs with
  | [x, y] => E.nx (put (put ρ i x) j y) M1
  | _ => False) R
def dPar3 (i j l : Nat) (a : DTA) : DTS := fun E ρ M R => a ρ M (fun xs M1 => match xs with
  | [x, y, z] => E.nx (put (put (put ρ i x) j y) l z) M1
  | _ => False) R
def dAug (i : Nat) (o : D → D → Mem → DQ → Prop) (a : DTE) : DTS := fun E ρ M R => match nth ρ i with
  | some x => a ρ M (fun y M1 => o x y M1 fun z M2 => E.nx (put ρ i z) M2) R
  | none => False
/-- raise C('..'), a class of the program without an own __init__ -/
def dRaise (c : Str) : DTS := fun _ ρ M R => R (.mk c none) ρ M
def dLoop (g : DTG) (t : DTS) (E : DEnds) (R : DR) : List D → Env → Mem → Prop
  | [], ρ, M => E.nx ρ M
  | d :: ds, ρ, M => g d ρ M fun ρ1 M1 => t { nx := dLoop g t E R ds, rt := E.rt, bk := E.nx, ct := dLoop g t E R ds } ρ1 M1 R
def dFor (it : DTA) (g : DTG) (t : DTS) : DTS := fun E ρ M R => it ρ M (fun ds M1 => dLoop g t E R ds ρ M1) R
def dWh (c : DTT) (t : DTS) (E : DEnds) (R : DR) : Nat → Env → Mem → Prop
  | 0, _, _ => False
  | n + 1, ρ, M => c ρ M (fun b M1 => if b = true then t { nx := dWh c t E R n, rt := E.rt, bk := E.nx, ct := dWh c t E R n } ρ M1 R else E.nx ρ M1) R
def dWhile (c : DTT) (t : DTS) : DTS := fun E ρ M R => ∃ n, dWh c t E R n ρ M
def noR : DR := fun _ _ _ => False
def dYes : DTT := fun _ M Q _ => Q true M
def dLcL (g : DTG) (tt : DTT) (te : DTE) (ρ : Env) (Q : DQ) : List D → List D → Mem → Prop
  | [], acc, M => Q (.lst acc) M
  | d :: ds, acc, M => g d ρ M fun ρ1 M1 => tt ρ1 M1 (fun b M2 => if b = true then te ρ1 M2 (fun y M3 => dLcL g tt te ρ Q ds (acc ++ [y]) M3) noR else dLcL g tt te ρ Q ds acc M2) noR
def dLc (vs : List Nat) (it : DTA) (g : DTG) (tt : DTT) (te : DTE) : DTE := fun ρ M Q R => it ρ M (fun ds M1 => ds.length ≤ 100000 ∧ dLcL g tt te (dels ρ vs) Q ds [] M1) R

/-! ### statements over the heap -/
structure GoS (K : PySem.W.Frag) (W : WX) (σ : St) (ρ : Env) (Z H : Hp) (M : Mem) (E : DEnds) (Rd : DR) (D : Ends) : Prop where
  at_ : At K Z H σ ρ M
  nx : ∀ Z' H' M' σ' ρ', Gr Z H M Z' H' M' → At K Z' H' σ' ρ' M' → E.nx ρ' M' → D.nx σ' H'
  bk : ∀ Z' H' M' σ' ρ', Gr Z H M Z' H' M' → At K Z' H' σ' ρ' M' → E.bk ρ' M' → D.bk σ' H'
  ct : ∀ Z' H' M' σ' ρ', Gr Z H M Z' H' M' → At K Z' H' σ' ρ' M' → E.ct ρ' M' → D.ct σ' H'
  rt : ∀ Z' H' M' v d, Gr Z H M Z' H' M' → MemAt K Z' H' M' → Rep K Z' v d → E.rt d M' → D.rt v H'
  r : ∀ Z' H' M' σ' ρ' ex cls dd, Gr Z H M Z' H' M' → At K Z' H' σ' ρ' M' → ExR K Z' H' ex cls dd → Rd ex ρ' M' → W cls dd σ' H'
def lS (K : PySem.W.Frag) (W : WX) (T : DTS) : TS := fun D σ H => ∃ Z ρ M E Rd, GoS K W σ ρ Z H M E Rd D ∧ T E ρ M Rd
/-- but at the slots S nothing is stored -/
structure Off (S : List Nat) (σ σ' : St) : Prop where
  off : ∀ i : Nat, i ∉ S → σ'[i]? = σ[i]?
  len : σ'.length = σ.length
theorem Off.refl (σ : St) : Off [] σ σ := ⟨fun _ _ => rfl, rfl⟩
theorem Off.trans {S T : List Nat} {σ σ1 σ2 : St} (a : Off S σ σ1) (b : Off T σ1 σ2) : Off (S ++ T) σ σ2 :=
  ⟨fun i h => (b.off i fun z => h (List.mem_append_right _ z)).trans (a.off i fun z => h (List.mem_append_left _ z)), b.len.trans a.len⟩
def lG (K : PySem.W.Frag) (S : List Nat) (g : DTG) : TG := fun v σ H Q => ∃ Z ρ M d Qd, At K Z H σ ρ M ∧ Rep K Z v d ∧ g d ρ M Qd ∧ ∀ Z' H' M' σ' ρ', Gr Z H M Z' H' M' → At K Z' H' σ' ρ' M' → Off S σ σ' → Qd ρ' M' → Q σ' H'
def lGs (K : PySem.W.Frag) (S : List Nat) (gs : List DTG) : TGs := fun vs σ H Q => ∃ Z ρ M ds Qd, At K Z H σ ρ M ∧ RepL K Z vs ds ∧ gSeq gs ds ρ M Qd ∧ ∀ Z' H' M' σ' ρ', Gr Z H M Z' H' M' → At K Z' H' σ' ρ' M' → Off S σ σ' → Qd ρ' M' → Q σ' H'
/-- what an iterator walks: ds -/
structure Walk (K : PySem.W.Frag) (Z : Hp) (J : It) (ds : List D) : Prop where
  stop : ∀ H, Ex Z H → J.stop ds.length H
  go : ∀ i H, Ex Z H → i < ds.length → J.go i H
  yld : ∀ i H v H' d, Ex Z H → J.yld i H v H' → ds[i]? = some d → (H' = H ∧ Rep K Z v d) ∨ ∃ p xs, H p = none ∧ H' = upd H p (.tup xs) ∧ Rep K (upd Z p (.tup xs)) v d
abbrev lI (K : PySem.W.Frag) (W : WX) (T : DTA) : TI := lf K W (fun Z J ds => Walk K Z J ds) T

section
variable {K : PySem.W.Frag} {W : WX} {σ σ1 : St} {ρ ρ1 : Env} {Z H Z1 H1 : Hp} {M M1 : Mem} {E : DEnds} {Rd : DR} {D : Ends}
theorem GoS.step (G : GoS K W σ ρ Z H M E Rd D) (g : Gr Z H M Z1 H1 M1) (a : At K Z1 H1 σ1 ρ1 M1) : GoS K W σ1 ρ1 Z1 H1 M1 E Rd D :=
  ⟨a, fun Z' H' M' σ' ρ' g' => G.nx Z' H' M' σ' ρ' (g.trans g'), fun Z' H' M' σ' ρ' g' => G.bk Z' H' M' σ' ρ' (g.trans g'), fun Z' H' M' σ' ρ' g' => G.ct Z' H' M' σ' ρ' (g.trans g'), fun Z' H' M' v d g' => G.rt Z' H' M' v d (g.trans g'), fun Z' H' M' σ' ρ' ex cls dd g' => G.r Z' H' M' σ' ρ' ex cls dd (g.trans g')⟩
/-- an expression's part, then what follows -/
theorem GoS.seq {α β : Type} {rel1 : Hp → β → α → Prop} {T1 : DX α} {Q1 : α → Mem → Prop} {Q' : β → Hp → Prop} (G : GoS K W σ ρ Z H M E Rd D) (h : T1 ρ M Q1 Rd)
    (k : ∀ Z1 H1 M1 v x, GoS K W σ ρ Z1 H1 M1 E Rd D → Gr Z H M Z1 H1 M1 → rel1 Z1 v x → Q1 x M1 → Q' v H1) : lf K W rel1 T1 σ H Q' :=
  ⟨Z, ρ, M, Q1, Rd, ⟨G.at_, fun Z' H' M' v d g a r q => k Z' H' M' v d (G.step g a) g r q, fun Z' H' M' ex cls dd g a => G.r Z' H' M' σ ρ ex cls dd g a⟩, h⟩
theorem GoS.next (G : GoS K W σ ρ Z H M E Rd D) (q : E.nx ρ M) : D.nx σ H := G.nx Z H M σ ρ (Gr.refl Z H M) G.at_ q
theorem At.set (a : At K Z H σ ρ M) (i : Nat) {v : V} {d : Dl.D} (r : Rep K Z v d) : At K Z H (σ.set i (some v)) (put ρ i d) M := by
  refine ⟨⟨a.zh, a.mem, a.nd, a.nz⟩, fun j e h => ?_, by rw [put_eq, List.length_set, List.length_set]; exact a.ln⟩
  rw [put_eq] at h
  by_cases hj : i = j
  · subst hj
    by_cases hi : i < ρ.length
    · rw [List.getElem?_set_self hi] at h
      cases h
      exact ⟨v, by rw [List.getElem?_set_self (by rw [← a.ln]; exact hi)], r⟩
    · rw [List.getElem?_eq_none (by simpa using hi)] at h; cases h
  · rw [List.getElem?_set_ne hj] at h
    obtain ⟨w, e1, r1⟩ := a.sl j e h
    exact ⟨w, by rw [List.getElem?_set_ne hj]; exact e1, r1⟩
end

section
variable {X : Cx} {W : WX} {a b c e tg : Expr} {es : List Expr} {st : Stmt} {sts : List Stmt} {pos p : Pos} {Ta Tb : DTE} {A : DTT} {TA : DTA} {T U : DTS} {g : DTG} {gs : List DTG}
abbrev DS (X : Cx) (W : WX) (s : Stmt) (T : DTS) : Prop := PS X s (lS X.K W T)
abbrev DSs (X : Cx) (W : WX) (s : List Stmt) (T : DTS) : Prop := PSs X s (lS X.K W T)
abbrev DG (X : Cx) (S : List Nat) (e : Expr) (g : DTG) : Prop := PG X e (lG X.K S g)
abbrev DGs (X : Cx) (S : List Nat) (es : List Expr) (gs : List DTG) : Prop := PGs X es (lGs X.K S gs)
abbrev DI (X : Cx) (W : WX) (tg e : Expr) (T : DTA) : Prop := PI X tg e (lI X.K W T)
theorem ds_nil : DSs X W [] dNext := wkSs pss_nil fun D σ H ⟨Z, ρ, M, E, Rd, G, h⟩ => G.next h
theorem ds_cons (h1 : DS X W st T) (h2 : DSs X W sts U) : DSs X W (st :: sts) (dSeq T U) :=
  wkSs (pss_cons h1 h2) fun D σ H ⟨Z, ρ, M, E, Rd, G, h⟩ => ⟨Z, ρ, M, { E with nx := fun ρ1 M1 => U E ρ1 M1 Rd }, Rd,
    ⟨G.at_, fun Z' H' M' σ' ρ' g a q => ⟨Z', ρ', M', E, Rd, G.step g a, q⟩, G.bk, G.ct, G.rt, G.r⟩, h⟩
theorem ds_one (h1 : DS X W st T) : DSs X W [st] T := pss_one h1
theorem ds_pass : DS X W (.Pass pos) dNext := wkS ps_pass fun D σ H ⟨Z, ρ, M, E, Rd, G, h⟩ => G.next h
theorem ds_expr (he : DE X W e Ta) (hs : swapsWith e none pos.line X.env = pure false := by rfl) : DS X W (.Expr e pos) (dDrop Ta) :=
  wkS (ps_expr he hs) fun D σ H ⟨Z, ρ, M, E, Rd, G, h⟩ => G.seq (rel1 := Rep X.K) h fun Z1 H1 M1 v x G1 _ _ q => G1.next q
theorem ds_ret (he : DE X W e Ta) : DS X W (.Return (some e) pos) (dRet Ta) :=
  wkS (ps_ret he) fun D σ H ⟨Z, ρ, M, E, Rd, G, h⟩ => G.seq (rel1 := Rep X.K) h fun Z1 H1 M1 v x G1 _ r q => G1.rt Z1 H1 M1 v x (Gr.refl _ _ _) G1.at_.toMemAt r q
theorem ds_retN : DS X W (.Return none pos) dRetN := wkS ps_retN fun D σ H ⟨Z, ρ, M, E, Rd, G, h⟩ => G.rt Z H M .non .non (Gr.refl _ _ _) G.at_.toMemAt .non h
theorem ds_if {ss ts : List Stmt} (hc : DT X W c A) (ha : DSs X W ss T) (hb : DSs X W ts U) : DS X W (.If c ss ts pos) (dIf A T U) :=
  wkS (ps_if hc ha hb) fun D σ H ⟨Z, ρ, M, E, Rd, G, h⟩ => G.seq (rel1 := eqR) h fun Z1 H1 M1 v x G1 _ r q => by
    cases (show v = x from r)
    by_cases hk : v = true
    · rw [if_pos hk] at q ⊢; exact ⟨_, _, _, _, _, G1, q⟩
    · rw [if_neg hk] at q ⊢; exact ⟨_, _, _, _, _, G1, q⟩
/-! targets -/
theorem dg_name (i : Nat) {x : Str} (hN : X.N.Nodup) (hi : X.N[i]? = some x := by rfl) (hx : Loc X.env.scope x := by first | exact Or.inl rfl | exact Or.inr rfl) (hf : X.fn x = true ∨ X.env.scope.names.lookup x = some .local := by first | exact .inl rfl | exact .inr rfl) : DG X [i] (.Name x pos) (gN i) :=
  wkG (pg_name hN hi hx hf) fun v σ H Q ⟨Z, ρ, M, d, Qd, a, r, h, k⟩ => k Z H M _ _ (Gr.refl _ _ _) (a.set i r) ⟨fun j hj => List.getElem?_set_ne fun z => hj (by rw [z]; exact List.mem_singleton_self _), List.length_set⟩ h
theorem dgs_nil : DGs X [] [] [] := wkGs pgs_nil fun vs σ H Q ⟨Z, ρ, M, ds, Qd, a, r, h, k⟩ => by
  cases r with
  | nil => exact ⟨rfl, k Z H M σ ρ (Gr.refl _ _ _) a (Off.refl σ) h⟩
  | cons _ _ => exact h.elim
theorem dgs_cons {S1 S2 : List Nat} (h1 : DG X S1 e g) (h2 : DGs X S2 es gs) (hs : (assignEach (e :: es) X.env).map (·.2) = assign e X.env :: (assignEach es X.env).map (·.2) := by rfl) : DGs X (S1 ++ S2) (e :: es) (g :: gs) :=
  wkGs (pgs_cons h1 h2 hs) fun vs σ H Q ⟨Z, ρ, M, ds, Qd, a, r, h, k⟩ => by
    cases r with
    | nil => exact h.elim
    | cons r rs =>
      exact ⟨_, _, rfl, Z, ρ, M, _, _, a, r, h, fun Z' H' M' σ' ρ' g a o q => ⟨Z', ρ', M', _, Qd, a, rs.mono g.zz, q, fun Z2 H2 M2 σ2 ρ2 g2 a2 o2 => k Z2 H2 M2 σ2 ρ2 (g.trans g2) a2 (o.trans o2)⟩⟩
theorem gSeq_len : ∀ {gs : List DTG} {ds : List D} {ρ : Env} {M : Mem} {Q : Env → Mem → Prop}, gSeq gs ds ρ M Q → (∀ g ∈ gs, ∀ d ρ M Q, g d ρ M Q → ∃ ρ1 M1, Q ρ1 M1) → ds.length = gs.length
  | [], [], _, _, _, _, _ => rfl
  | [], _ :: _, _, _, _, h, _ => h.elim
  | _ :: _, [], _, _, _, h, _ => h.elim
  | g :: gs, d :: ds, ρ, M, Q, h, hh => by
    obtain ⟨ρ1, M1, h1⟩ := hh g (List.mem_cons_self ..) d ρ M _ h
    exact congrArg Nat.succ (gSeq_len h1 fun g hg => hh g (List.mem_cons_of_mem _ hg))
/-- a target that stores and goes on -/
def Goes (g : DTG) : Prop := ∀ d ρ M Q, g d ρ M Q → ∃ ρ1 M1, Q ρ1 M1
theorem goes_name (i : Nat) : Goes (gN i) := fun d ρ M Q h => ⟨_, _, h⟩
theorem goes_seq : ∀ {gs : List DTG}, (∀ g ∈ gs, Goes g) → ∀ ds ρ M Q, gSeq gs ds ρ M Q → ∃ ρ1 M1, Q ρ1 M1
  | [], _, [], _, _, _, h => ⟨_, _, h⟩
  | [], _, _ :: _, _, _, _, h => h.elim
  | _ :: _, _, [], _, _, _, h => h.elim
  | g :: gs, hh, d :: ds, ρ, M, Q, h => by
    obtain ⟨ρ1, M1, h1⟩ := hh g (List.mem_cons_self ..) d ρ M _ h
    exact goes_seq (fun g hg => hh g (List.mem_cons_of_mem _ hg)) ds ρ1 M1 Q h1
theorem goes_tup {gs : List DTG} (h : ∀ g ∈ gs, Goes g) : Goes (gT gs) := fun d ρ M Q q => by
  cases d with
  | tup ds => exact goes_seq h ds ρ M Q q
  | _ => exact q.elim
theorem goes_nil : ∀ g ∈ ([] : List DTG), Goes g := fun g h => by cases h
theorem goes_cons {g : DTG} {gs : List DTG} (h : Goes g) (hs : ∀ g ∈ gs, Goes g) : ∀ k ∈ g :: gs, Goes k := fun k hk => by
  rcases List.mem_cons.mp hk with e | e
  · rw [e]; exact h
  · exact hs k e
theorem dg_tup {k : Nat} {S : List Nat} (hc : X.calm = true) (hgo : ∀ g ∈ gs, Goes g) (h : DGs X S es gs) (hn : (assignEach es X.env).length = gs.length := by rfl) (hst : (assignEach es X.env).findIdx? (·.1) = none := by rfl) : DG X S (.Tuple es k pos) (gT gs) :=
  wkG (pg_tup (n := gs.length) hc h hn hst) fun v σ H Q ⟨Z, ρ, M, d, Qd, a, r, h, k⟩ => by
    cases r with
    | tup hz rs => exact ⟨_, _, rfl, SqT.of (a.zh _ _ hz), by rw [rs.length]; exact gSeq_len h hgo, Z, ρ, M, _, Qd, a, rs, h, k⟩
    | _ => exact h.elim
theorem ds_asg {S : List Nat} (he : DE X W e Ta) (hg : DG X S tg g) (hs : swapsWithSole [tg] e pos.line X.env = pure false := by rfl) (hw : swappedStores [tg] e X.env = pure none := by rfl) (h1 : (assignEach [tg] X.env).map (·.2) = [assign tg X.env] := by rfl) :
    DS X W (.Assign [tg] e pos) (dAsg Ta g) :=
  wkS (ps_asg he hg hs hw h1) fun D σ H ⟨Z, ρ, M, E, Rd, G, h⟩ => G.seq (rel1 := Rep X.K) h fun Z1 H1 M1 v x G1 _ r q =>
    ⟨Z1, ρ, M1, x, E.nx, G1.at_, r, q, fun Z' H' M' σ' ρ' g a _ q => G1.nx Z' H' M' σ' ρ' g a q⟩
theorem ds_set (i : Nat) {x : Str} {pos' : Pos} (hN : X.N.Nodup) (he : DE X W e Ta) (hi : X.N[i]? = some x := by rfl) (hx : Loc X.env.scope x := by first | exact Or.inl rfl | exact Or.inr rfl) (hs : swapsWith e (some (.Name x pos')) pos.line X.env = pure false := by rfl)
    (hf : X.fn x = true ∨ X.env.scope.names.lookup x = some .local := by first | exact .inl rfl | exact .inr rfl) : DS X W (.Assign [.Name x pos'] e pos) (dAsg Ta (gN i)) :=
  wkS (ps_set hN hi hx he hs hf) fun D σ H ⟨Z, ρ, M, E, Rd, G, h⟩ => G.seq (rel1 := Rep X.K) h fun Z1 H1 M1 v x G1 _ r q =>
    G1.nx Z1 H1 M1 _ _ (Gr.refl _ _ _) (G1.at_.set i r) q
theorem ds_par2 {i j : Nat} {x y : Str} {px py pt : Pos} {kt k2 : Nat} {pt2 : Pos} (hc : X.calm = true) (hN : X.N.Nodup) (ha : DA X W [a, b] TA) (hi : X.N[i]? = some x := by rfl) (hj : X.N[j]? = some y := by rfl) (hij : i ≠ j := by decide)
    (hx : X.env.scope.names.lookup x = some .local := by rfl) (hy : X.env.scope.names.lookup y = some .local := by rfl) 
    (hw : swappedStores [.Tuple [.Name x px, .Name y py] kt pt] (.Tuple [a, b] k2 pt2) X.env = pure (some [x, y]) := by rfl)
    (hs : swapsWithSole [.Tuple [.Name x px, .Name y py] kt pt] (.Tuple [a, b] k2 pt2) pos.line X.env = pure false := by rfl) :
    DS X W (.Assign [.Tuple [.Name x px, .Name y py] kt pt] (.Tuple [a, b] k2 pt2) pos) (dPar2 i j TA) :=
  wkS (ps_par hc hN hi hj hij hx hy ha hw hs) fun D σ H ⟨Z, ρ, M, E, Rd, G, h⟩ => G.seq (rel1 := RepL X.K) h fun Z1 H1 M1 vs xs G1 _ r q => by
    cases r with
    | nil => exact q.elim
    | cons r1 t =>
      cases t with
      | nil => exact q.elim
      | cons r2 t =>
        cases t with
        | nil => exact ⟨_, _, rfl, G1.nx Z1 H1 M1 _ _ (Gr.refl _ _ _) ((G1.at_.set i r1).set j r2) q⟩
        | cons _ _ => exact q.elim
theorem ds_par3 {i j l : Nat} {x y z : Str} {px py pz pt : Pos} {kt k2 : Nat} {pt2 : Pos} (hc : X.calm = true) (hN : X.N.Nodup) (ha : DA X W [a, b, c] TA) (hi : X.N[i]? = some x := by rfl) (hj : X.N[j]? = some y := by rfl) (hl : X.N[l]? = some z := by rfl)
    (hij : i ≠ j := by decide) (hil : i ≠ l := by decide) (hjl : j ≠ l := by decide)
    (hx : X.env.scope.names.lookup x = some .local := by rfl) (hy : X.env.scope.names.lookup y = some .local := by rfl) (hz : X.env.scope.names.lookup z = some .local := by rfl) 
    (hw : swappedStores [.Tuple [.Name x px, .Name y py, .Name z pz] kt pt] (.Tuple [a, b, c] k2 pt2) X.env = pure (some [x, y, z]) := by rfl)
    (hs : swapsWithSole [.Tuple [.Name x px, .Name y py, .Name z pz] kt pt] (.Tuple [a, b, c] k2 pt2) pos.line X.env = pure false := by rfl) :
    DS X W (.Assign [.Tuple [.Name x px, .Name y py, .Name z pz] kt pt] (.Tuple [a, b, c] k2 pt2) pos) (dPar3 i j l TA) :=
  wkS (ps_par3 hc hN hi hj hl hij hil hjl hx hy hz ha hw hs) fun D σ H ⟨Z, ρ, M, E, Rd, G, h⟩ => G.seq (rel1 := RepL X.K) h fun Z1 H1 M1 vs xs G1 _ r q => by
    cases r with
    | nil => exact q.elim
    | cons r1 t =>
      cases t with
      | nil => exact q.elim
      | cons r2 t =>
        cases t with
        | nil => exact q.elim
        | cons r3 t =>
          cases t with
          | nil => exact ⟨_, _, _, rfl, G1.nx Z1 H1 M1 _ _ (Gr.refl _ _ _) (((G1.at_.set i r1).set j r2).set l r3) q⟩
          | cons _ _ => exact q.elim
/-! name op= e -/
def IpD (K : PySem.W.Frag) (t : TIp) (o : D → D → Mem → DQ → Prop) : Prop := OpD K t o
theorem ds_aug (i : Nat) {x : Str} {pos' : Pos} {op : Operator} {ti : TIp} {o : D → D → Mem → DQ → Prop} (hN : X.N.Nodup) (ho : PIp X op ti) (hd : OpD X.K ti o) (he : DE X W e Ta) (hi : X.N[i]? = some x := by rfl) (hx : Loc X.env.scope x := by first | exact Or.inl rfl | exact Or.inr rfl)
    (hf : X.fn x = true ∨ X.env.scope.names.lookup x = some .local := by first | exact .inl rfl | exact .inr rfl) : DS X W (.AugAssign (.Name x pos') op e pos) (dAug i o Ta) :=
  wkS (ps_aug hN hi hx he ho hf) fun D σ H ⟨Z, ρ, M, E, Rd, G, h⟩ => by
    unfold dAug at h
    cases q : nth ρ i with
    | none => rw [q] at h; exact h.elim
    | some d =>
      rw [q] at h
      obtain ⟨v, e1, rv⟩ := G.at_.sl i d ((nth_eq ρ i d).mp q)
      refine ⟨v, e1, G.seq (rel1 := Rep X.K) h fun Z1 H1 M1 w y G1 g1 ry h1 => ?_⟩
      refine hd (W := W) (σ := σ) (ρ := ρ) (Qd := fun z M2 => E.nx (put ρ i z) M2) (Rd := Rd) ⟨G1.at_, fun Z' H' M' z d g a r q => ?_, fun Z' H' M' ex cls dd g a => G1.r Z' H' M' σ ρ ex cls dd g a⟩ (rv.mono g1.zz) ry h1
      exact G1.nx Z' H' M' _ _ g (a.set i r) q
/-! raise -/
theorem ds_raise {x m : Str} {j : Nat} {p1 p2 p3 : Pos} {C : Addr} {bm : List Value} (hc : X.calm = true) (tk : L2N.Takes X W) (hC : C = He.ga X.K x) (q : PySem.W.excIn X.K C bm "ValueError.__new__" = true) (F : ExcBaseFacts "ValueError" "ValueError.__new__" "ValueError.__init__" bm)
    (gC : X.mg x = some (.ref C)) (kC : PySem.W.keepIn X.K (.ref C) = true) (r : Raises X (.ref C)) (hg : Gl X x := by rfl) (hd : (x == ("__debug__" : Str)) = false := by decide) :
    DS X W (.Raise (some (.Call (.Name x p1) [.Constant (.str m) j p2] [] p3)) none pos) (dRaise x) :=
  wkS (L2N.ps_raise hc tk (L2N.pmk_own F q gC kC r hg hd)) fun D σ H ⟨Z, ρ, M, E, Rd, G, h⟩ => G.r Z H M σ ρ _ _ _ (Gr.refl _ _ _) G.at_ ⟨by rw [hC], rfl⟩ h
/-! ### loops -/
theorem ex_upd {Z Z' : Hp} {p : Addr} {o : HO} (e : Ex Z Z') : Ex (upd Z p o) (upd Z' p o) := fun a u h => by
  by_cases ha : a = p
  · rw [ha, upd_same] at h ⊢; exact h
  · rw [upd_ne ha] at h ⊢; exact e a u h
theorem ds_for {S : List Nat} {iter : Expr} {body : List Stmt} (hp : PassesOwn (model X.prog X.w) X.A X.env X.xe) (hc : X.calm = true) (hi : DI X W tg iter TA) (hg : DG X S tg g) (hb : DSs X W body T)
    (hs : ∀ x, foldedSetIterable iter X.env x = pure x := by intro _; rfl) : DS X W (.For tg iter body [] pos) (dFor TA g T) :=
  wkS (ps_for hp hc hi hg hb hs) fun D σ H ⟨Z, ρ, M, E, Rd, G, h⟩ => G.seq (rel1 := fun Z J ds => Walk X.K Z J ds) h fun Z1 H1 M1 J ds G1 g1 wk q => by
    refine ⟨fun i m σ2 H2 => m = ds.length - i ∧ i ≤ ds.length ∧ ∃ Z2 ρ2 M2, GoS X.K W σ2 ρ2 Z2 H2 M2 E Rd D ∧ Ex Z1 Z2 ∧ dLoop g T E Rd (ds.drop i) ρ2 M2, ⟨ds.length, by simp, Nat.zero_le _, Z1, ρ, M1, G1, Ex.refl _, q⟩, ?_⟩
    rintro i m σ2 H2 ⟨rfl, hi, Z2, ρ2, M2, G2, e2, q2⟩
    by_cases hl : i < ds.length
    · refine .inr ⟨wk.go i H2 (e2.trans G2.at_.zh) hl, fun σ' H' => ∃ Z3 ρ3 M3, GoS X.K W σ' ρ3 Z3 H' M3 E Rd D ∧ Ex Z1 Z3 ∧ dLoop g T E Rd (ds.drop (i + 1)) ρ3 M3, fun σ' H' h' => ⟨ds.length - (i + 1), by omega, rfl, hl, h'⟩, fun x H' y => ?_⟩
      rw [List.drop_eq_getElem_cons hl] at q2
      have fin : ∀ {Z' H'}, Gr Z2 H2 M2 Z' H' M2 → At X.K Z' H' σ2 ρ2 M2 → Rep X.K Z' x ds[i] → lG X.K S g x σ2 H' fun σ3 H3 => lS X.K W T { D with nx := fun σ' H' => ∃ Z3 ρ3 M3, GoS X.K W σ' ρ3 Z3 H' M3 E Rd D ∧ Ex Z1 Z3 ∧ dLoop g T E Rd (ds.drop (i + 1)) ρ3 M3, ct := fun σ' H' => ∃ Z3 ρ3 M3, GoS X.K W σ' ρ3 Z3 H' M3 E Rd D ∧ Ex Z1 Z3 ∧ dLoop g T E Rd (ds.drop (i + 1)) ρ3 M3, bk := D.nx } σ3 H3 := fun {Z' H'} ga aa rr => by
        refine ⟨Z', ρ2, M2, ds[i], _, aa, rr, q2, fun Z3 H3 M3 σ3 ρ3 g3 a3 _ q3 => ?_⟩
        have ex3 : Ex Z1 Z3 := (e2.trans ga.zz).trans g3.zz
        have G3 := G2.step (ga.trans g3) a3
        exact ⟨Z3, ρ3, M3, { nx := dLoop g T E Rd (ds.drop (i + 1)), rt := E.rt, bk := E.nx, ct := dLoop g T E Rd (ds.drop (i + 1)) }, Rd, ⟨a3, fun Z4 H4 M4 σ4 ρ4 g4 a4 q4 => ⟨Z4, ρ4, M4, G3.step g4 a4, ex3.trans g4.zz, q4⟩, G3.nx, fun Z4 H4 M4 σ4 ρ4 g4 a4 q4 => ⟨Z4, ρ4, M4, G3.step g4 a4, ex3.trans g4.zz, q4⟩, G3.rt, G3.r⟩, q3⟩
      rcases wk.yld i H2 x H' ds[i] (e2.trans G2.at_.zh) y (by simp [hl]) with ⟨e, r⟩ | ⟨p, o, hp, e, r⟩
      · subst e; exact fin (Gr.refl _ _ _) G2.at_ (r.mono e2)
      · subst e
        obtain ⟨ga, aa⟩ := G2.at_.new (o := .tup o) hp
        exact fin ga aa (r.mono (ex_upd e2))
    · have e : i = ds.length := by omega
      subst e
      rw [List.drop_length] at q2
      exact .inl ⟨wk.stop H2 (e2.trans G2.at_.zh), G2.next q2⟩
theorem ds_while {body : List Stmt} (hp : PassesOwn (model X.prog X.w) X.A X.env X.xe) (hc : DT X W c A) (hb : DSs X W body T) : DS X W (.While c body [] pos) (dWhile A T) :=
  wkS (ps_while hp hc hb) fun D σ H ⟨Z, ρ, M, E, Rd, G, n, h⟩ => by
    refine ⟨fun m σ2 H2 => ∃ Z2 ρ2 M2, GoS X.K W σ2 ρ2 Z2 H2 M2 E Rd D ∧ dWh A T E Rd m ρ2 M2, ⟨n, Z, ρ, M, G, h⟩, ?_⟩
    rintro m σ2 H2 ⟨Z2, ρ2, M2, G2, q2⟩
    cases m with
    | zero => exact q2.elim
    | succ m =>
      refine G2.seq (rel1 := eqR) q2 fun Z3 H3 M3 b b' G3 g3 eb q3 => ?_
      cases (show b = b' from eb)
      by_cases hk : b = true
      · rw [if_pos hk] at q3 ⊢
        exact ⟨fun σ' H' => ∃ Z2 ρ2 M2, GoS X.K W σ' ρ2 Z2 H' M2 E Rd D ∧ dWh A T E Rd m ρ2 M2, fun σ' H' h' => ⟨m, Nat.lt_succ_self m, h'⟩,
          Z3, ρ2, M3, { nx := dWh A T E Rd m, rt := E.rt, bk := E.nx, ct := dWh A T E Rd m }, Rd, ⟨G3.at_, fun Z4 H4 M4 σ4 ρ4 g4 a4 q4 => ⟨Z4, ρ4, M4, G3.step g4 a4, q4⟩, G3.nx, fun Z4 H4 M4 σ4 ρ4 g4 a4 q4 => ⟨Z4, ρ4, M4, G3.step g4 a4, q4⟩, G3.rt, G3.r⟩, q3⟩
      · rw [if_neg hk] at q3 ⊢; exact G3.next q3
end

/-! ### comprehensions -/
theorem wipe_at (σ : St) : ∀ (vs : List Nat) (i : Nat), (wipe σ vs)[i]? = if i ∈ vs then (if i < σ.length then some none else none) else σ[i]?
  | [], i => by simp [wipe]
  | v :: vs, i => by
    unfold wipe
    by_cases h : v = i
    · subst h
      by_cases hl : v < σ.length
      · rw [List.getElem?_set_self (by rw [wipe_length]; exact hl), if_pos List.mem_cons_self, if_pos hl]
      · rw [List.getElem?_eq_none (by rw [List.length_set, wipe_length]; omega), if_pos List.mem_cons_self, if_neg hl]
    · rw [List.getElem?_set_ne h, wipe_at σ vs i]
      by_cases hm : i ∈ vs
      · rw [if_pos hm, if_pos (List.mem_cons_of_mem _ hm)]
      · rw [if_neg hm, if_neg fun z => (List.mem_cons.mp z).elim (fun e => h e.symm) hm]
theorem wipe_off {σ σ' : St} {S vs : List Nat} (h : Off S σ σ') (hs : ∀ i ∈ S, i ∈ vs) : wipe σ' vs = wipe σ vs := by
  apply List.ext_getElem?
  intro i
  rw [wipe_at, wipe_at, h.len]
  by_cases hm : i ∈ vs
  · rw [if_pos hm, if_pos hm]
  · rw [if_neg hm, if_neg hm, h.off i fun z => hm (hs i z)]
theorem wipe_wipe (σ : St) (vs : List Nat) : wipe (wipe σ vs) vs = wipe σ vs := by
  apply List.ext_getElem?
  intro i
  rw [wipe_at, wipe_at, wipe_length]
  by_cases hm : i ∈ vs
  · rw [if_pos hm, if_pos hm]
  · rw [if_neg hm, if_neg hm]
theorem dels_len (ρ : Env) : ∀ vs : List Nat, (dels ρ vs).length = ρ.length
  | [] => rfl
  | v :: vs => by
    show (del (dels ρ vs) v).length = _
    rw [del_eq, List.length_set, dels_len ρ vs]
theorem dels_at (ρ : Env) (d : D) : ∀ (vs : List Nat) (i : Nat), (dels ρ vs)[i]? = some (some d) → ρ[i]? = some (some d) ∧ i ∉ vs
  | [], i, h => ⟨h, by simp⟩
  | v :: vs, i, h => by
    have h1 : (del (dels ρ vs) v)[i]? = some (some d) := h
    rw [del_eq] at h1
    by_cases e : v = i
    · subst e
      by_cases hl : v < (dels ρ vs).length
      · rw [List.getElem?_set_self hl] at h1; cases h1
      · rw [List.getElem?_eq_none (by simpa using hl)] at h1; cases h1
    · rw [List.getElem?_set_ne e] at h1
      obtain ⟨h2, h3⟩ := dels_at ρ d vs i h1
      exact ⟨h2, fun z => (List.mem_cons.mp z).elim (fun q => e q.symm) h3⟩
section
variable {K : PySem.W.Frag} {σ : St} {ρ : Env} {Z H Z1 H1 : Hp} {M M1 : Mem}
theorem At.wipe (a : At K Z H σ ρ M) (vs : List Nat) : At K Z H (wipe σ vs) (dels ρ vs) M :=
  ⟨a.toMemAt, fun i d h => by
    obtain ⟨h1, h2⟩ := dels_at ρ d vs i h
    obtain ⟨v, e, r⟩ := a.sl i d h1
    exact ⟨v, by rw [wipe_at, if_neg h2]; exact e, r⟩, by rw [dels_len, wipe_length]; exact a.ln⟩
theorem At.later (a : At K Z H σ ρ M) (e : Ex Z Z1) (m : MemAt K Z1 H1 M1) : At K Z1 H1 σ ρ M1 :=
  ⟨m, fun i d h => let ⟨v, e1, r⟩ := a.sl i d h; ⟨v, e1, r.mono e⟩, a.ln⟩
/-- an object p that nobody speaks of is written -/
theorem MemAt.loose (a : MemAt K Z H M) {p : Addr} {o : HO} (hz : Z p = none) (hk : p ∉ keys M) (hx : ∀ P, H p ≠ some (HO.ext P)) : MemAt K Z (upd H p o) M :=
  ⟨fun b u e => by rw [upd_ne fun z => by rw [z, hz] at e; cases e]; exact a.zh b u e, fun q u hq => ⟨(a.mem q u hq).1, (a.mem q u hq).2.mono (Ex.refl Z) (by rw [upd_ne fun z => hk (by rw [← z]; exact List.mem_map.mpr ⟨(q, u), hq, rfl⟩)]) (fun b P e => by rw [upd_ne fun z => hx P (by rw [← z]; exact e)]; exact e)⟩, a.nd, a.nz⟩
theorem Gr.loose (g : Gr Z H M Z1 H1 M1) {p : Addr} {o : HO} (h : H p = none) : Gr Z H M Z1 (upd H1 p o) M1 :=
  ⟨g.zz, g.new, fun b u n e hb => by rw [upd_ne (ne_of_none e h)]; exact g.keep b u n e hb, g.kk⟩
/-- .. and it will never change again -/
theorem MemAt.freeze (a : MemAt K Z H M) {p : Addr} {o : HO} [n : NT o] (hz : Z p = none) (hk : p ∉ keys M) (ho : H p = some o) : MemAt K (upd Z p o) H M :=
  ⟨fun b u e => by
    by_cases hb : b = p
    · rw [hb, upd_same] at e; rw [hb, ho]; exact e
    · rw [upd_ne hb] at e; exact a.zh b u e, fun q u hq => by
    have nq : q ≠ p := fun z => hk (by rw [← z]; exact List.mem_map.mpr ⟨(q, u), hq, rfl⟩)
    exact ⟨by rw [upd_ne nq]; exact (a.mem q u hq).1, (a.mem q u hq).2.mono (Ex.new hz) rfl (Xt.refl H)⟩, a.nd, nz_upd a.nz n⟩
theorem Gr.pass (g : Gr Z H M Z1 H1 M1) {p : Addr} {xs : List V} (h : H p = some (.lst xs)) (hk : p ∉ keys M) (hz : Z p = none) : H1 p = some (.lst xs) ∧ p ∉ keys M1 ∧ Z1 p = none := by
  refine ⟨g.keep p _ inferInstance h hk, fun z => (g.kk p z).elim hk (fun q => by rcases q with q | ⟨_, q⟩ <;> (rw [h] at q; cases q)), ?_⟩
  cases q : Z1 p with
  | none => rfl
  | some u => rcases g.new p u q with z | z | z | ⟨_, z⟩ | ⟨_, z⟩
              · rw [hz] at z; cases z
              · rw [h] at z; cases z
              · exact (hk z).elim
              · rw [h] at z; cases z
              · rw [h] at z; cases z
end
section
variable {X : Cx} {W : WX} {elt tg iter : Expr} {ifs : List Expr} {scope : Scope} {own : List (Str × Nat)} {pos : Pos} {TA : DTA} {g : DTG} {tt : DTT} {te : DTE} {S : List Nat}
abbrev W0 : WX := fun _ _ _ _ => False
theorem lc_ok {K : PySem.W.Frag} {vs : List Nat} (hS : ∀ i ∈ S, i ∈ vs) {σ : St} {H : Hp} {Q : VK} (h : lE K W (dLc vs TA g tt te) σ H Q) : tLc (lI K W TA) (lG K S g) (lT K W0 tt) (lE K W0 te) vs σ H Q := by
  obtain ⟨Z, ρ, M, Qd, Rd, G, h⟩ := h
  refine G.seq (rel1 := fun Z J ds => Walk K Z J ds) h fun Z1 H1 M1 J ds G1 e1 wk q => ?_
  obtain ⟨hlen, q⟩ := q
  intro p hp
  have hz1 : Z1 p = none := G1.at_.zh.free hp
  have hk1 : p ∉ keys M1 := (G1.at_.newM (o := .lst []) (m := .lst []) hp ⟨[], upd_same, .nil⟩).2.2
  refine ⟨fun i m H2 => m = ds.length - i ∧ i ≤ ds.length ∧ ∃ Z2 M2 acc xs, Gr Z1 H1 M1 Z2 H2 M2 ∧ MemAt K Z2 H2 M2 ∧ H2 p = some (.lst xs) ∧ RepL K Z2 xs acc ∧ Z2 p = none ∧ p ∉ keys M2 ∧ acc.length ≤ i ∧ dLcL g tt te (dels ρ vs) Qd (ds.drop i) acc M2,
    ⟨ds.length, by simp, Nat.zero_le _, Z1, M1, [], [], (Gr.refl Z1 H1 M1).loose hp, G1.at_.toMemAt.loose hz1 hk1 (fun P z => by rw [hp] at z; cases z), upd_same, .nil, hz1, hk1, Nat.le_refl _, q⟩, ?_⟩
  rintro i m H2 ⟨rfl, hi, Z2, M2, acc, xs, g2, m2, hp2, rs, hz2, hk2, hacc, q2⟩
  have a2 : At K Z2 H2 (wipe σ vs) (dels ρ vs) M2 := (G1.at_.wipe vs).later g2.zz m2
  by_cases hl : i < ds.length
  · refine .inr ⟨wk.go i H2 (g2.zz.trans m2.zh) hl, fun H3 => ∃ Z2 M2 acc xs, Gr Z1 H1 M1 Z2 H3 M2 ∧ MemAt K Z2 H3 M2 ∧ H3 p = some (.lst xs) ∧ RepL K Z2 xs acc ∧ Z2 p = none ∧ p ∉ keys M2 ∧ acc.length ≤ i + 1 ∧ dLcL g tt te (dels ρ vs) Qd (ds.drop (i + 1)) acc M2, fun H' h' => ⟨ds.length - (i + 1), by omega, rfl, hl, h'⟩, fun x H' y => ?_⟩
    rw [List.drop_eq_getElem_cons hl] at q2
    have fin : ∀ {Z' H'}, Gr Z2 H2 M2 Z' H' M2 → At K Z' H' (wipe σ vs) (dels ρ vs) M2 → Rep K Z' x ds[i] → lG K S g x (wipe σ vs) H' fun σ3 H3 => wipe σ3 vs = wipe σ vs ∧ lT K W0 tt σ3 H3 fun b H4 =>
        if b = true then lE K W0 te σ3 H4 fun y H5 => ∃ acc, H5 p = some (.lst acc) ∧ acc.length < sizeLine ∧ (∃ Z2 M2 acc1 xs, Gr Z1 H1 M1 Z2 (upd H5 p (.lst (acc ++ [y]))) M2 ∧ MemAt K Z2 (upd H5 p (.lst (acc ++ [y]))) M2 ∧ (upd H5 p (.lst (acc ++ [y]))) p = some (.lst xs) ∧ RepL K Z2 xs acc1 ∧ Z2 p = none ∧ p ∉ keys M2 ∧ acc1.length ≤ i + 1 ∧ dLcL g tt te (dels ρ vs) Qd (ds.drop (i + 1)) acc1 M2)
        else ∃ Z2 M2 acc xs, Gr Z1 H1 M1 Z2 H4 M2 ∧ MemAt K Z2 H4 M2 ∧ H4 p = some (.lst xs) ∧ RepL K Z2 xs acc ∧ Z2 p = none ∧ p ∉ keys M2 ∧ acc.length ≤ i + 1 ∧ dLcL g tt te (dels ρ vs) Qd (ds.drop (i + 1)) acc M2 := fun {Z' H'} ga aa rr => by
      refine ⟨Z', dels ρ vs, M2, ds[i], _, aa, rr, q2, fun Z3 H3 M3 σ3 ρ3 g3 a3 of3 q3 => ⟨(wipe_off of3 hS).trans (wipe_wipe σ vs), ?_⟩⟩
      refine ⟨Z3, ρ3, M3, _, noR, ⟨a3, fun Z4 H4 M4 b b' g4 a4 eb q4 => ?_, fun _ _ _ _ _ _ _ _ _ z => z.elim⟩, q3⟩
      cases (show b = b' from eb)
      have gg4 := (ga.trans g3).trans g4
      by_cases hb : b = true
      · rw [if_pos hb] at q4 ⊢
        refine ⟨Z4, ρ3, M4, _, noR, ⟨a4, fun Z5 H5 M5 y d g5 a5 ry q5 => ?_, fun _ _ _ _ _ _ _ _ _ z => z.elim⟩, q4⟩
        have gg := gg4.trans g5
        obtain ⟨p1, p2, p3⟩ := gg.pass hp2 hk2 hz2
        refine ⟨xs, p1, ?_, Z5, M5, acc ++ [d], xs ++ [y], (g2.trans gg).loose hp, a5.toMemAt.loose p3 p2 (fun P z => by rw [p1] at z; cases z), upd_same, (rs.mono gg.zz).append (.cons ry .nil), p3, p2, by rw [List.length_append]; exact Nat.succ_le_succ hacc, q5⟩
        have := rs.length
        have h5 : (100000 : Nat) < sizeLine := by decide
        omega
      · rw [if_neg hb] at q4 ⊢
        obtain ⟨p1, p2, p3⟩ := gg4.pass hp2 hk2 hz2
        exact ⟨Z4, M4, acc, xs, g2.trans gg4, a4.toMemAt, p1, rs.mono gg4.zz, p3, p2, Nat.le_succ_of_le hacc, q4⟩
    rcases wk.yld i H2 x H' ds[i] (g2.zz.trans m2.zh) y (by simp [hl]) with ⟨e, r⟩ | ⟨t, o, ht, e, r⟩
    · subst e; exact fin (Gr.refl _ _ _) a2 (r.mono g2.zz)
    · subst e
      obtain ⟨ga, aa⟩ := a2.new (o := .tup o) ht
      exact fin ga aa (r.mono (ex_upd g2.zz))
  · have e : i = ds.length := by omega
    subst e
    rw [List.drop_length] at q2
    refine .inl ⟨wk.stop H2 (g2.zz.trans m2.zh), ?_⟩
    refine G1.k (upd Z2 p (.lst xs)) H2 M2 (.ref p) (.lst acc) ⟨g2.zz.trans (Ex.new hz2), fun b u e => ?_, g2.keep, g2.kk⟩ (G1.at_.later (g2.zz.trans (Ex.new hz2)) (m2.freeze hz2 hk2 hp2)) (.lst upd_same (rs.mono (Ex.new hz2))) q2
    by_cases hb : b = p
    · rw [hb]; exact .inr (.inl hp)
    · rw [upd_ne hb] at e; exact g2.new b u e
theorem de_lc (hc : X.calm = true) (hN : X.N.Nodup) (hi : DI X W tg iter TA) (ok : BlkOk X.N X.env.scope scope own) (hS : ∀ i ∈ S, i ∈ own.map (·.2))
    (hg : ∀ (s : Shared) (H : Hp) (C : Addr) (cl : List (Str × Addr)) (fp : List Addr), DG (X.blk s H scope (compEnvC scope cl C X.env) fp) S tg g)
    (ht : ∀ (s : Shared) (H : Hp) (C : Addr) (cl : List (Str × Addr)) (fp : List Addr), PTs (X.blk s H scope (compEnvC scope cl C X.env) fp) ifs (lT X.K W0 tt))
    (he : ∀ (s : Shared) (H : Hp) (C : Addr) (cl : List (Str × Addr)) (fp : List Addr), DE (X.blk s H scope (compEnvC scope cl C X.env) fp) W0 elt te) (hs : ∀ x, foldedSetIterable iter X.env x = pure x := by intro _; rfl) :
    DE X W (.ListComp elt [⟨tg, iter, ifs, 0⟩] scope pos) (dLc (own.map (·.2)) TA g tt te) :=
  wkE (pe_lc hc hN hi ok hg ht he hs) fun σ H Q h => lc_ok hS h
theorem ds_setLc (i : Nat) {y : Str} {py : Pos} {spos : Pos} (hc : X.calm = true) (hN : X.N.Nodup) (hi : DI X W tg iter TA) (ok : BlkOk X.N X.env.scope scope own) (hS : ∀ i ∈ S, i ∈ own.map (·.2))
    (hg : ∀ (s : Shared) (H : Hp) (C : Addr) (cl : List (Str × Addr)) (fp : List Addr), DG (X.blk s H scope (compEnvC scope cl C X.env) fp) S tg g)
    (ht : ∀ (s : Shared) (H : Hp) (C : Addr) (cl : List (Str × Addr)) (fp : List Addr), PTs (X.blk s H scope (compEnvC scope cl C X.env) fp) ifs (lT X.K W0 tt))
    (he : ∀ (s : Shared) (H : Hp) (C : Addr) (cl : List (Str × Addr)) (fp : List Addr), DE (X.blk s H scope (compEnvC scope cl C X.env) fp) W0 elt te)
    (hsw : swapsWith (.ListComp elt [⟨tg, iter, ifs, 0⟩] scope pos) (some (.Name y py)) spos.line X.env = pure true) (hy : X.N[i]? = some y := by rfl) (hyl : X.env.scope.names.lookup y = some .local := by rfl) (hs : ∀ x, foldedSetIterable iter X.env x = pure x := by intro _; rfl) :
    DS X W (.Assign [.Name y py] (.ListComp elt [⟨tg, iter, ifs, 0⟩] scope pos) spos) (dAsg (dLc (own.map (·.2)) TA g tt te) (gN i)) :=
  wkS (ps_setLc hc hN hy hyl hsw hi ok hg ht he hs) fun D σ H ⟨Z, ρ, M, E, Rd, G, h⟩ =>
    lc_ok hS ⟨Z, ρ, M, fun x M1 => gN i x ρ M1 E.nx, Rd, ⟨G.at_, fun Z' H' M' v d g a r q => G.nx Z' H' M' _ _ g (a.set i r) q, fun Z' H' M' ex cls dd g a => G.r Z' H' M' σ ρ ex cls dd g a⟩, h⟩
theorem dts_nil : PTs X [] (lT X.K W dYes) := ⟨fun pins s σ H Q I ⟨Z, ρ, M, Qd, Rd, G, h⟩ => pts_nil.run pins s σ H Q I (G.val (rel := eqR) rfl h)⟩
theorem dts_one {c : Expr} {A : DTT} (h : DT X W c A) : PTs X [c] (lT X.K W A) := pts_one h
end
end Dl
namespace Dl
open PySem PySem.Spec PyProof.Rows L2
/-! # Defs and their calls -/
def startN (n : Nat) (ds : List D) : Dl.Env := ds.map some ++ List.replicate (n - ds.length) none
/-- what a def promises, over the heap -/
def spOf (K : PySem.W.Frag) (S : DSp) : Sp := fun vs H Q E => ∃ Z M ds Qd Rd, MemAt K Z H M ∧ RepL K Z vs ds ∧ S ds M Qd Rd ∧
  (∀ Z' H' M' v d, Gr Z H M Z' H' M' → MemAt K Z' H' M' → Rep K Z' v d → Qd d M' → Q v H') ∧ ∀ Z' H' M' ex cls dd, Gr Z H M Z' H' M' → MemAt K Z' H' M' → ExR K Z' H' ex cls dd → Rd ex M' → E cls dd H'
abbrev FnD (P : Program) (w : World) (K : PySem.W.Frag) (mg : Str → Option Value) (base : Heap) (k : Nat) (f : Addr) (fd : FuncData) (ps : List Str) (S : DSp) : Prop := FnOk P w K mg base (L2N.CX P w) k f fd ps (spOf K S)
/-- what a def wishes of exceptions -/
abbrev WD (E : XK) : WX := fun cls d _ H => E cls d H
/-- what is left behind and seen no more may be forgotten -/
def Fg (M : Mem) (P : Mem → Prop) : Prop := ∃ M' : Mem, M'.Sublist M ∧ P M'
/-- a def's contract is kept by its transformer (n: its names) -/
def Keeps (S : DSp) (n : Nat) (T : DTS) : Prop := ∀ ds M Q R, S ds M Q R → T { nx := fun _ M' => Fg M' (Q .non), rt := fun d M' => Fg M' (Q d) } (startN n ds) M fun ex _ M' => Fg M' (R ex)
theorem MemAt.sub {K : PySem.W.Frag} {Z H : Hp} {M M' : Mem} (m : MemAt K Z H M) (h : M'.Sublist M) : MemAt K Z H M' := ⟨m.zh, fun p o q => m.mem p o (h.subset q), m.nd.sublist (h.map _), m.nz⟩
theorem Gr.sub {Z H Z1 H1 : Hp} {M M1 M2 : Mem} (g : Gr Z H M Z1 H1 M1) (h : M2.Sublist M1) : Gr Z H M Z1 H1 M2 := ⟨g.zz, g.new, g.keep, fun p q => g.kk p ((h.map _).subset q)⟩
theorem at_start {K : PySem.W.Frag} {Z H : Hp} {M : Mem} {vs : List V} {ds : List D} (N : List Str) (m : MemAt K Z H M) (r : RepL K Z vs ds) : At K Z H (L2.start N vs) (startN N.length ds) M := by
  have hl := r.length
  refine ⟨m, fun i d h => ?_, ?_⟩
  · unfold startN at h
    unfold L2.start
    by_cases hi : i < ds.length
    · rw [List.getElem?_append_left (by simpa using hi), List.getElem?_map] at h
      obtain ⟨v, e, q⟩ := r.get (i := i) (d := d) (by
        cases z : ds[i]? with
        | none => rw [z] at h; cases h
        | some u => rw [z] at h; exact congrArg some (Option.some.inj (Option.some.inj h)))
      exact ⟨v, by rw [List.getElem?_append_left (by rw [List.length_map]; omega), List.getElem?_map, e] <;> rfl, q⟩
    · rw [List.getElem?_append_right (by simpa using Nat.le_of_not_lt hi), List.getElem?_replicate] at h
      split at h <;> cases h
  · unfold startN L2.start
    rw [List.length_append, List.length_append, List.length_map, List.length_map, List.length_replicate, List.length_replicate, hl]
section
variable {P : Program} {w : World} {K : PySem.W.Frag} {mg : Str → Option Value} {base : Heap} {x qual : Str} {params : Arguments} {body : List Stmt} {scope : Scope} {f : Addr} {fd : FuncData} {N ps : List Str} {k : Nat} {S : DSp} {T : DTS}
/-- THE RULE for a def -/
theorem fnD (F : FunD K x qual params body scope [] [] f fd) (Sc : FnScope N ps scope) (hl : ∀ ds M Q R, S ds M Q R → ds.length = ps.length)
    (hb : ∀ (cdv : Value) (A : Around) (outer : List PySem.Env) (s : Shared) (H : Hp) (E : XK), Room k (A.deeper (envOfC qual scope s.heap.objs.size f cdv)) → DSs (cxOf (L2N.CX P w) P w K mg base N qual scope f cdv A outer s H E) (WD E) body T)
    (hp : Keeps S N.length T) : FnD P w K mg base (k + 1) f fd ps S := by
  refine F.ok Sc (fun vs H Q E h => ?_) (fun cdv A outer s H vs Q E hr h => ⟨_, hb cdv A outer s H E hr, ?_⟩)
  · obtain ⟨Z, M, ds, Qd, Rd, m, r, q, _⟩ := h
    rw [r.length]; exact hl ds M Qd Rd q
  · obtain ⟨Z, M, ds, Qd, Rd, m, r, q, k1, k2⟩ := h
    exact ⟨Z, startN N.length ds, M, { nx := fun _ M' => Fg M' (Qd .non), rt := fun d M' => Fg M' (Qd d) }, fun ex _ M' => Fg M' (Rd ex), ⟨at_start N m r, fun Z' H' M' σ' ρ' g a ⟨M2, hs, q⟩ => k1 Z' H' M2 .non .non (g.sub hs) (a.toMemAt.sub hs) .non q, fun _ _ _ _ _ _ _ z => False.elim z, fun _ _ _ _ _ _ _ z => False.elim z, fun Z' H' M' v d g a r ⟨M2, hs, q⟩ => k1 Z' H' M2 v d (g.sub hs) (a.sub hs) r q,
      fun Z' H' M' σ' ρ' ex cls dd g a e ⟨M2, hs, q⟩ => k2 Z' H' M2 ex cls dd (g.sub hs) (a.toMemAt.sub hs) e q⟩, hp ds M Qd Rd q⟩
theorem FnOk.weak {S S' : DSp} (F : FnD P w K mg base k f fd ps S) (h : ∀ ds M Q R, S' ds M Q R → S ds M Q R) : FnD P w K mg base k f fd ps S' :=
  FnOk.imp F fun vs H Q E ⟨Z, M, ds, Qd, Rd, m, r, q, k1, k2⟩ => ⟨Z, M, ds, Qd, Rd, m, r, h _ _ _ _ q, k1, k2⟩
end
section
variable {X : Cx} {W : WX} {k : Nat} {f : Addr} {fd : FuncData} {ps : List Str} {S : DSp} {x : Str} {p pos : Pos} {e : Expr} {es : List Expr} {TA : DTA}
theorem call_ok {K : PySem.W.Frag} {t : L2.TA} (w : ∀ σ H Q, lA K W TA σ H Q → t σ H Q) {σ : L2.St} {H : Hp} {Q : VK} (h : lE K W (dCall S TA) σ H Q) : tCallS (spOf K S) (WE W) t σ H Q := by
  obtain ⟨Z, ρ, M, Qd, Rd, G, h⟩ := h
  refine w _ _ _ (G.seq (rel1 := RepL K) h fun Z1 H1 M1 vs xs G1 _ rs h1 => ?_)
  exact ⟨Z1, M1, xs, _, _, G1.at_.toMemAt, rs, h1, fun Z' H' M' v d g m r q => G1.k Z' H' M' v d g (G1.at_.later g.zz m) r q, fun Z' H' M' ex cls dd g m r q => G1.r Z' H' M' ex cls dd g (G1.at_.later g.zz m) r q⟩
theorem de_call (F : FnD X.prog X.w X.K X.mg X.base k f fd ps S) (hr : Room k X.A) (hm : X.mg x = some (.ref f)) (hk : PySem.W.keepIn X.K (.ref f) = true) (hb : L2.Binds X.K fd ps []) (tk : L2N.Takes X W) (ha : DA X W (e :: es) TA)
    (hg : Gl X x := by rfl) (hdb : (x == ("__debug__" : Str)) = false := by decide) (he : starEach (e :: es) X.env = (false, eval e X.env) :: starEach es X.env := by rfl) (hpl : (backTo pos (starEach es X.env)).any (·.1) = false := by rfl) :
    DE X W (.Call (.Name x p) (e :: es) [] pos) (dCall S TA) :=
  wkE (pe_callS F hr hg hm hk hb (L2N.passAt tk) ha hdb he hpl) fun σ H Q h => call_ok (fun _ _ _ q => q) h
theorem pe_call0S {CX : CXT} {sp : Sp} {E : L2.St → XK} (F : FnOk X.prog X.w X.K X.mg X.base CX k f fd ps sp) (hr : Room k X.A) (hg : Gl X x) (hm : X.mg x = some (.ref f)) (hk : PySem.W.keepIn X.K (.ref f) = true) (hb : L2.Binds X.K fd ps []) (hx : ∀ σ, PassesAt CX X σ (E σ))
    (hdb : (x == ("__debug__" : Str)) = false := by decide) : PE X (.Call (.Name x p) [] [] pos) (tCallS sp E tNil) := by
  refine ⟨fun pins s σ H Q I h => ?_⟩
  refine wpAny_Call_Name_kw (ld_glob I hg hm ?_ hdb)
  exact PySem.W.callWith_K0 I.kIn hk (run_fnS (us := []) F hr hb (hx σ) I .nil h)
theorem de_call0 (F : FnD X.prog X.w X.K X.mg X.base k f fd ps S) (hr : Room k X.A) (hm : X.mg x = some (.ref f)) (hk : PySem.W.keepIn X.K (.ref f) = true) (hb : L2.Binds X.K fd ps []) (tk : L2N.Takes X W)
    (hg : Gl X x := by rfl) (hdb : (x == ("__debug__" : Str)) = false := by decide) : DE X W (.Call (.Name x p) [] [] pos) (dCall S dNil) :=
  wkE (pe_call0S F hr hg hm hk hb (L2N.passAt tk) hdb) fun σ H Q h => call_ok (TA := dNil) (t := tNil) (fun σ H Q h => by
    obtain ⟨Z, ρ, M, Qd, Rd, G, h⟩ := h
    exact G.val (rel := RepL X.K) .nil h) h
/-- a built-in by its name -/
theorem cb_ok {K : PySem.W.Frag} {r : List V → Hp → VK → Prop} {B : List D → Mem → DQ → Prop} (hd : CallD K r B) {σ : L2.St} {H : Hp} {Q : VK} (h : lE K W (dB B TA) σ H Q) : tCB r (lA K W TA) σ H Q := by
  obtain ⟨Z, ρ, M, Qd, Rd, G, h⟩ := h
  exact G.seq (rel1 := RepL K) h fun Z1 H1 M1 vs xs G1 _ rs h1 => hd G1 rs h1
theorem de_b {id : String} {r : List V → Hp → VK → Prop} {B : List D → Mem → DQ → Prop} (hc : CallR X (.builtin id) r) (hd : CallD X.K r B) (hm : X.mg x = none) (ha : DA X W (e :: es) TA) (hv : bootBuiltins x = some (.builtin id) := by decide +kernel)
    (hg : Gl X x := by rfl) (hn : x ≠ "__name__" := by decide) (hdb : (x == ("__debug__" : Str)) = false := by decide) (he : starEach (e :: es) X.env = (false, eval e X.env) :: starEach es X.env := by rfl) (hpl : (backTo pos (starEach es X.env)).any (·.1) = false := by rfl) :
    DE X W (.Call (.Name x p) (e :: es) [] pos) (dB B TA) := wkE (pe_callB hc hg hm hv ha hn hdb he hpl) fun _ _ _ h => cb_ok hd h
theorem de_ty {T : String} {r : List V → Hp → VK → Prop} {B : List D → Mem → DQ → Prop} (hc : CallR X (.type T) r) (hd : CallD X.K r B) (hm : X.mg x = none) (ha : DA X W (e :: es) TA) (hv : bootBuiltins x = some (.type T) := by decide +kernel)
    (hg : Gl X x := by rfl) (hn : x ≠ "__name__" := by decide) (hdb : (x == ("__debug__" : Str)) = false := by decide) (he : starEach (e :: es) X.env = (false, eval e X.env) :: starEach es X.env := by rfl) (hpl : (backTo pos (starEach es X.env)).any (·.1) = false := by rfl) :
    DE X W (.Call (.Name x p) (e :: es) [] pos) (dB B TA) := wkE (pe_callTy hc hg hm hv ha hn hdb he hpl) fun _ _ _ h => cb_ok hd h
end
end Dl
namespace Dl
open PySem L2
/-! # Operations on data -/
/-! ### operators -/
def oAdd : D → D → Mem → DQ → Prop
  | .int i, .int j, M, Q => Q (.int (i + j)) M
  | .str i, .str j, M, Q => i.length + j.length ≤ 100000 ∧ Q (.str (i ++ j)) M
  | .lst i, .lst j, M, Q => i.length + j.length ≤ 100000 ∧ Q (.lst (i ++ j)) M
  | .tup i, .tup j, M, Q => i.length + j.length ≤ 100000 ∧ Q (.tup (i ++ j)) M
  | _, _, _, _ => False
def oSub : D → D → Mem → DQ → Prop
  | .int i, .int j, M, Q => Q (.int (i - j)) M
  | _, _, _, _ => False
def small64 (i : Int) : Prop := -(2 ^ 64) < i ∧ i < 2 ^ 64
def oMul : D → D → Mem → DQ → Prop
  | .int i, .int j, M, Q => (small64 i ∨ small64 j) ∧ Q (.int (i * j)) M
  | .lst i, .int j, M, Q => (0 ≤ j ∧ j ≤ 1000 ∧ i.length ≤ 100) ∧ Q (.lst (List.replicate j.toNat i).flatten) M
  | _, _, _, _ => False
def oDiv : D → D → Mem → DQ → Prop
  | .int i, .int j, M, Q => (0 < j ∧ j < 2 ^ 200) ∧ Q (.int (i / j)) M
  | _, _, _, _ => False
def oMod : D → D → Mem → DQ → Prop
  | .int i, .int j, M, Q => 0 < j ∧ Q (.int (i % j)) M
  | _, _, _, _ => False
def oPow : D → D → Mem → DQ → Prop
  | .int i, .int j, M, Q => (0 ≤ j ∧ j ≤ 1000 ∧ -100 ≤ i ∧ i ≤ 100) ∧ Q (.int (i ^ j.toNat)) M
  | _, _, _, _ => False
def oLt : D → D → Mem → DQ → Prop
  | .int i, .int j, M, Q => Q (.bl (decide (i < j))) M
  | .str i, .str j, M, Q => Q (.bl (decide (i.cps.toList < j.cps.toList))) M
  | _, _, _, _ => False
def oLe : D → D → Mem → DQ → Prop
  | .int i, .int j, M, Q => Q (.bl (decide (i ≤ j))) M
  | .str i, .str j, M, Q => Q (.bl (!decide (j.cps.toList < i.cps.toList))) M
  | _, _, _, _ => False
def oGt : D → D → Mem → DQ → Prop
  | .int i, .int j, M, Q => Q (.bl (decide (j < i))) M
  | _, _, _, _ => False
def oGe : D → D → Mem → DQ → Prop
  | .int i, .int j, M, Q => Q (.bl (decide (j ≤ i))) M
  | _, _, _, _ => False
/-- is None, is not None -/
def D.isN : D → Bool
  | .non => true
  | _ => false
def oIs : D → D → Mem → DQ → Prop
  | x, .non, M, Q => Q (.bl x.isN) M
  | _, _, _, _ => False
def oIsNot : D → D → Mem → DQ → Prop
  | x, .non, M, Q => Q (.bl (!x.isN)) M
  | .bl a, .bl b, M, Q => Q (.bl (!(a == b))) M
  | _, _, _, _ => False
/-! ### data as the library compares them -/
mutual
def D.py : D → PyData
  | .non => .none
  | .bl b => .bool b
  | .int i => .int i
  | .str x => .str x
  | .tup ds => .tuple (D.pyL ds)
  | .lst ds => .list (D.pyL ds)
  | .scr _ => .dict []
  | .fn _ => .dict []
  | .obj _ => .dict []
def D.pyL : List D → List PyData
  | [] => []
  | d :: ds => d.py :: D.pyL ds
end
/-- plain data of no great depth -/
def D.ok (d : D) : Prop := SeqAt.shaped d.py = true
def D.eqv (d e : D) : Bool := PyData.eqv d.py e.py
def oEq (x y : D) (M : Mem) (Q : DQ) : Prop := x.ok ∧ y.ok ∧ Q (.bl (x.eqv y)) M
def oNe (x y : D) (M : Mem) (Q : DQ) : Prop := x.ok ∧ y.ok ∧ Q (.bl (!x.eqv y)) M
/-- in -/
def D.any (x : D) : List D → Bool
  | [] => false
  | d :: ds => d.eqv x || D.any x ds
def oIn : D → D → Mem → DQ → Prop
  | .str ⟨⟨[c]⟩⟩, .str z, M, Q => Q (.bl (decide (c ∈ z.cps.toList))) M
  | x, .lst ds, M, Q => x.ok ∧ (D.lst ds).ok ∧ Q (.bl (D.any x ds)) M
  | _, _, _, _ => False
def oNotIn : D → D → Mem → DQ → Prop
  | .str ⟨⟨[c]⟩⟩, .str z, M, Q => Q (.bl (!decide (c ∈ z.cps.toList))) M
  | x, .lst ds, M, Q => x.ok ∧ (D.lst ds).ok ∧ Q (.bl (!D.any x ds)) M
  | _, _, _, _ => False

section
variable {K : PySem.W.Frag} {W : WX} {σ : St} {ρ : Env} {Z H : Hp} {M : Mem} {Qd : DQ} {Rd : DR} {Q : VK}
theorem Go.h (G : Go K W (Rep K) σ ρ Z H M Qd Rd Q) {a : Addr} {o : HO} (h : Z a = some o) : H a = some o := G.at_.zh a o h
mutual
theorem Rep.dp (e : Ex Z H) : ∀ {v : V} {d : D}, Rep K Z v d → d.py.canLay0 = true → Dp K H v d.py
  | _, _, .non, _ => by simp only [D.py]; exact .non
  | _, _, .bl b, _ => by simp only [D.py]; exact .bl b
  | _, _, .int i, _ => by simp only [D.py]; exact .int i
  | _, _, .str x, _ => by simp only [D.py]; exact .str x
  | _, _, .tup h r, q => by
    simp only [D.py, PyData.canLay0] at q ⊢
    exact .tup (SqT.of (e _ _ h)) (r.dp e q)
  | _, _, .lst h r, q => by
    simp only [D.py, PyData.canLay0] at q ⊢
    exact .lst (SqL.of (e _ _ h)) (r.dp e q)
  | _, _, .scr _, q => by simp [D.py, PyData.canLay0] at q
  | _, _, .fn _, q => by simp [D.py, PyData.canLay0] at q
  | _, _, .obj _, q => by simp [D.py, PyData.canLay0] at q
theorem RepL.dp (e : Ex Z H) : ∀ {vs : List V} {ds : List D}, RepL K Z vs ds → PyData.canLayAll0 (D.pyL ds) = true → DpAll K H vs (D.pyL ds)
  | _, _, .nil, _ => by simp only [D.pyL]; exact .nil
  | _, _, .cons h r, q => by
    simp only [D.pyL, PyData.canLayAll0, Bool.and_eq_true] at q ⊢
    exact .cons (h.dp e q.1) (r.dp e q.2)
end
end
theorem any_py (x : D) : ∀ ds : List D, (D.pyL ds).any (fun z => PyData.eqv z x.py) = D.any x ds
  | [] => by simp [D.pyL, D.any]
  | d :: ds => by
    simp only [D.pyL, List.any_cons, D.any, D.eqv]
    rw [any_py x ds]
section
variable {K : PySem.W.Frag}
/-! soundness -/
def rStr (f : Str → Str → V) : R2 := fun x y H Q => ∃ i j, x = .str i ∧ y = .str j ∧ Q (f i j) H
def rAddS : R2 := fun x y H Q => ∃ i j, x = .str i ∧ y = .str j ∧ i.length + j.length ≤ sizeLine ∧ Q (.str (i ++ j)) H
def rAddU (K : PySem.W.Frag) : R2 := fun x y H Q => (∃ i j, x = .int i ∧ y = .int j ∧ Q (.int (i + j)) H) ∨ rAddS x y H Q ∨ rCat x y H Q ∨ rCatA K x y H Q
theorem or_add {X : Cx} : OpR X (binaryOp .Add) (rAddU X.K) := op_add.or (op_add_str.or (op_cat.or op_catA))
theorem od_add : OpD K (rAddU K) oAdd := by
  intro W σ ρ Z H M Qd Rd Q v w x y G rx ry h
  cases x <;> cases y <;> first | exact h.elim | skip
  · cases rx; cases ry; exact .inl ⟨_, _, rfl, rfl, G.val (.int _) h⟩
  · cases rx; cases ry; exact .inr (.inl ⟨_, _, rfl, rfl, sz h.1, G.val (.str _) h.2⟩)
  · cases rx with
    | tup hz rs =>
      cases ry with
      | tup hz2 rs2 =>
        refine .inr (.inr (.inr ⟨_, _, _, _, rfl, rfl, SqT.of (G.h hz), SqT.of (G.h hz2), by rw [rs.length, rs2.length]; exact sz h.1, fun e => ?_, fun _ e => ?_, fun _ _ p hp => G.new (o := .tup _) hp (.tup upd_same ((rs.append rs2).mono (Ex.new (G.at_.zh.free hp)))) h.2⟩))
        · subst e; cases rs; exact G.val (.tup hz2 rs2) h.2
        · subst e; cases rs2; have h2 := h.2; rw [List.append_nil] at h2; exact G.val (.tup hz rs) h2
  · cases rx with
    | lst hz rs =>
      cases ry with
      | lst hz2 rs2 =>
        exact .inr (.inr (.inl ⟨_, _, _, _, rfl, rfl, G.h hz, G.h hz2, by rw [rs.length, rs2.length]; exact sz h.1, fun p hp => G.new (o := .lst _) hp (.lst upd_same ((rs.append rs2).mono (Ex.new (G.at_.zh.free hp)))) h.2⟩))
theorem od_sub : OpD K (rI0 fun i j => .int (i - j)) oSub := by
  intro W σ ρ Z H M Qd Rd Q v w x y G rx ry h
  cases x <;> cases y <;> first | exact h.elim | skip
  cases rx; cases ry; exact ⟨_, _, rfl, rfl, G.val (.int _) h⟩
def rMulU : R2 := fun x y H Q => rI CMul (fun i j => .int (i * j)) x y H Q ∨ rRep x y H Q
theorem or_mul {X : Cx} : OpR X (binaryOp .Mult) rMulU := op_mul.or op_rep
theorem RepL.flat {Z : Hp} {xs : List V} {ds : List D} (r : RepL K Z xs ds) : ∀ n : Nat, RepL K Z (List.replicate n xs).flatten (List.replicate n ds).flatten
  | 0 => .nil
  | n + 1 => by
    rw [List.replicate_succ, List.replicate_succ, List.flatten_cons, List.flatten_cons]
    exact r.append (RepL.flat r n)
theorem od_mul : OpD K rMulU oMul := by
  intro W σ ρ Z H M Qd Rd Q v w x y G rx ry h
  cases x <;> cases y <;> first | exact h.elim | skip
  · cases rx; cases ry; exact .inl ⟨_, _, rfl, rfl, h.1, G.val (.int _) h.2⟩
  · cases ry
    cases rx with
    | lst hz rs =>
      obtain ⟨⟨h1, h2, h3⟩, q⟩ := h
      refine .inr ⟨_, _, _, rfl, rfl, G.h hz, by omega, by omega, ?_, fun p hp => G.new (o := .lst _) hp (.lst upd_same ((rs.flat _).mono (Ex.new (G.at_.zh.free hp)))) q⟩
      rw [rs.length]
      refine Nat.le_trans (Nat.mul_le_mul h3 (show _ ≤ 1000 by omega)) (by decide)
theorem od_div : OpD K (rI CDivW fun i j => .int (i / j)) oDiv := by
  intro W σ ρ Z H M Qd Rd Q v w x y G rx ry h
  cases x <;> cases y <;> first | exact h.elim | skip
  cases rx; cases ry
  obtain ⟨⟨h1, h2⟩, q⟩ := h
  exact ⟨_, _, rfl, rfl, wide_div (b := 200) h1 (by omega) (by decide) (by decide), G.val (.int _) q⟩
theorem od_mod : OpD K (rI (fun _ j => 0 < j) fun i j => .int (i % j)) oMod := by
  intro W σ ρ Z H M Qd Rd Q v w x y G rx ry h
  cases x <;> cases y <;> first | exact h.elim | skip
  cases rx; cases ry; exact ⟨_, _, rfl, rfl, h.1, G.val (.int _) h.2⟩
theorem od_pow : OpD K (rI CPow fun i j => .int (i ^ j.toNat)) oPow := by
  intro W σ ρ Z H M Qd Rd Q v w x y G rx ry h
  cases x <;> cases y <;> first | exact h.elim | skip
  cases rx; cases ry
  obtain ⟨⟨h1, h2, h3, h4⟩, q⟩ := h
  exact ⟨_, _, rfl, rfl, ⟨h1, by omega, by omega⟩, G.val (.int _) q⟩
def rCmpU (p : Int → Int → Bool) (q : List Nat → List Nat → Bool) : R2 := fun x y H Q => rI0 (fun i j => .bl (p i j)) x y H Q ∨ ∃ i j, x = .str i ∧ y = .str j ∧ Q (.bl (q i.cps.toList j.cps.toList)) H
theorem or_lt {X : Cx} : OpR X (compareOp .Lt) (rCmpU (fun i j => decide (i < j)) fun a b => decide (a < b)) := op_lt.or op_lt_str
theorem or_le {X : Cx} : OpR X (compareOp .LtE) (rCmpU (fun i j => decide (i ≤ j)) fun a b => !decide (b < a)) := op_le.or op_le_str
theorem od_lt : OpD K (rCmpU (fun i j => decide (i < j)) fun a b => decide (a < b)) oLt := by
  intro W σ ρ Z H M Qd Rd Q v w x y G rx ry h
  cases x <;> cases y <;> first | exact h.elim | skip
  · cases rx; cases ry; exact .inl ⟨_, _, rfl, rfl, G.val (.bl _) h⟩
  · cases rx; cases ry; exact .inr ⟨_, _, rfl, rfl, G.val (.bl _) h⟩
theorem od_le : OpD K (rCmpU (fun i j => decide (i ≤ j)) fun a b => !decide (b < a)) oLe := by
  intro W σ ρ Z H M Qd Rd Q v w x y G rx ry h
  cases x <;> cases y <;> first | exact h.elim | skip
  · cases rx; cases ry; exact .inl ⟨_, _, rfl, rfl, G.val (.bl _) h⟩
  · cases rx; cases ry; exact .inr ⟨_, _, rfl, rfl, G.val (.bl _) h⟩
theorem od_gt : OpD K (rI0 fun i j => .bl (decide (j < i))) oGt := by
  intro W σ ρ Z H M Qd Rd Q v w x y G rx ry h
  cases x <;> cases y <;> first | exact h.elim | skip
  cases rx; cases ry; exact ⟨_, _, rfl, rfl, G.val (.bl _) h⟩
theorem od_ge : OpD K (rI0 fun i j => .bl (decide (j ≤ i))) oGe := by
  intro W σ ρ Z H M Qd Rd Q v w x y G rx ry h
  cases x <;> cases y <;> first | exact h.elim | skip
  cases rx; cases ry; exact ⟨_, _, rfl, rfl, G.val (.bl _) h⟩
theorem isN_of {Z : Hp} {v : V} {x : D} (r : Rep K Z v x) : decide (v = V.non) = x.isN := by
  cases r <;> rfl
def rIsU : R2 := fun x y H Q => y = .non ∧ Q (.bl (decide (x = .non))) H
def rIsNU : R2 := fun x y H Q => (y = .non ∧ Q (.bl (!decide (x = .non))) H) ∨ rNotB x y H Q
theorem or_is {X : Cx} : OpR X (compareOp .Is) rIsU := op_isN
theorem or_isnot {X : Cx} : OpR X (compareOp .IsNot) rIsNU := op_notN.or op_notBl
theorem od_is : OpD K rIsU oIs := by
  intro W σ ρ Z H M Qd Rd Q v w x y G rx ry h
  cases y <;> first | (cases x <;> exact h.elim) | skip
  cases ry
  exact ⟨rfl, G.val (by rw [isN_of rx]; exact .bl _) (show Qd (.bl x.isN) M by cases x <;> exact h)⟩
theorem od_isnot : OpD K rIsNU oIsNot := by
  intro W σ ρ Z H M Qd Rd Q v w x y G rx ry h
  cases y <;> first | (cases x <;> exact h.elim) | skip
  · cases ry
    exact .inl ⟨rfl, G.val (by rw [isN_of rx]; exact .bl _) (show Qd (.bl (!x.isN)) M by cases x <;> exact h)⟩
  · cases x <;> first | exact h.elim | skip
    cases rx; cases ry
    refine .inr ⟨_, _, rfl, rfl, G.val (.bl _) ?_⟩
    rename_i a b
    have e : (!decide (b = a)) = !(b == a) := by cases a <;> cases b <;> rfl
    rw [e]; exact h
theorem od_eq : OpD K (rEqD K) oEq := by
  intro W σ ρ Z H M Qd Rd Q v w x y G rx ry h
  obtain ⟨h1, h2, q⟩ := h
  exact ⟨_, _, rx.dp G.at_.zh (SeqAt.canLay_of_shaped h1), ry.dp G.at_.zh (SeqAt.canLay_of_shaped h2), h1, h2, G.val (.bl _) q⟩
theorem od_ne : OpD K (rNeD K) oNe := by
  intro W σ ρ Z H M Qd Rd Q v w x y G rx ry h
  obtain ⟨h1, h2, q⟩ := h
  exact ⟨_, _, rx.dp G.at_.zh (SeqAt.canLay_of_shaped h1), ry.dp G.at_.zh (SeqAt.canLay_of_shaped h2), h1, h2, G.val (.bl _) q⟩
def rInSign (n : Bool) : R2 := fun x y H Q => ∃ (c : Nat) (z : Str), x = .str ⟨#[c]⟩ ∧ y = .str z ∧ Q (.bl (if n then !decide (c ∈ z.cps.toList) else decide (c ∈ z.cps.toList))) H
end
end Dl
namespace Dl
open PySem L2
/-! # Operations on data: in, subscripts, slices, built-ins, what changes -/
/-! ### what may change, read and written -/
def mget : Mem → Nat → Option MO
  | [], _ => none
  | x :: r, p => if x.1 = p then some x.2 else mget r p
def mset : Mem → Nat → MO → Mem
  | [], _, _ => []
  | x :: r, p, o => if x.1 = p then (p, o) :: r else x :: mset r p o
def mdel : Mem → Nat → Mem
  | [], _ => []
  | x :: r, p => if x.1 = p then r else x :: mdel r p
theorem mget_mem : ∀ {M : Mem} {p : Nat} {o : MO}, mget M p = some o → (p, o) ∈ M
  | [], _, _, h => by cases h
  | x :: r, p, o, h => by
    unfold mget at h
    by_cases e : x.1 = p
    · rw [if_pos e] at h; cases h; subst e; exact List.mem_cons_self ..
    · rw [if_neg e] at h; exact List.mem_cons_of_mem _ (mget_mem h)
theorem mget_key {M : Mem} {p : Nat} {o : MO} (h : mget M p = some o) : p ∈ keys M := List.mem_map.mpr ⟨_, mget_mem h, rfl⟩
theorem mset_keys : ∀ (M : Mem) (p : Nat) (o : MO), keys (mset M p o) = keys M
  | [], _, _ => rfl
  | x :: r, p, o => by
    unfold mset
    by_cases e : x.1 = p
    · rw [if_pos e]; subst e; rfl
    · rw [if_neg e]; exact congrArg (x.1 :: ·) (mset_keys r p o)
theorem mset_mem : ∀ {M : Mem} {p : Nat} {o : MO} {q : Nat} {u : MO}, (keys M).Nodup → (q, u) ∈ mset M p o → (q = p ∧ u = o) ∨ (q ≠ p ∧ (q, u) ∈ M)
  | [], _, _, _, _, _, h => by cases h
  | x :: r, p, o, q, u, nd, h => by
    have nd' := List.nodup_cons.mp (show (x.1 :: keys r).Nodup from nd)
    unfold mset at h
    by_cases e : x.1 = p
    · rw [if_pos e] at h
      rcases List.mem_cons.mp h with h | h
      · cases h; exact .inl ⟨rfl, rfl⟩
      · refine .inr ⟨fun z => nd'.1 ?_, List.mem_cons_of_mem _ h⟩
        rw [e, ← z]; exact List.mem_map.mpr ⟨(q, u), h, rfl⟩
    · rw [if_neg e] at h
      rcases List.mem_cons.mp h with h | h
      · cases h; exact .inr ⟨e, List.mem_cons_self ..⟩
      · rcases mset_mem nd'.2 h with h | h
        · exact .inl h
        · exact .inr ⟨h.1, List.mem_cons_of_mem _ h.2⟩
theorem mget_cons_self (p : Nat) (o : MO) (M : Mem) : mget ((p, o) :: M) p = some o := by simp [mget]
theorem mget_cons_ne {p q : Nat} {o : MO} {M : Mem} (h : p ≠ q) : mget ((p, o) :: M) q = mget M q := by simp [mget, h]
theorem mset_cons_self (p : Nat) (o u : MO) (M : Mem) : mset ((p, o) :: M) p u = (p, u) :: M := by simp [mset]
theorem mset_cons_ne {p q : Nat} {o u : MO} {M : Mem} (h : p ≠ q) : mset ((p, o) :: M) q u = (p, o) :: mset M q u := by simp [mset, h]
theorem mdel_cons_self (p : Nat) (o : MO) (M : Mem) : mdel ((p, o) :: M) p = M := by simp [mdel]
theorem mdel_cons_ne {p q : Nat} {o : MO} {M : Mem} (h : p ≠ q) : mdel ((p, o) :: M) q = (p, o) :: mdel M q := by simp [mdel, h]
theorem mdel_sub : ∀ (M : Mem) (p : Nat), (mdel M p).Sublist M
  | [], _ => .slnil
  | x :: r, p => by
    unfold mdel
    by_cases e : x.1 = p
    · rw [if_pos e]; exact .cons _ (.refl _)
    · rw [if_neg e]; exact (mdel_sub r p).cons₂ _
theorem mdel_key : ∀ {M : Mem} (p : Nat), (keys M).Nodup → p ∉ keys (mdel M p)
  | [], _, _ => by simp [mdel, keys]
  | x :: r, p, nd => by
    have nd' := List.nodup_cons.mp (show (x.1 :: keys r).Nodup from nd)
    unfold mdel
    by_cases e : x.1 = p
    · rw [if_pos e, ← e]; exact nd'.1
    · rw [if_neg e]
      intro h
      rcases List.mem_cons.mp (show p ∈ x.1 :: keys (mdel r p) from h) with h | h
      · exact e h.symm
      · exact mdel_key p nd'.2 h
section
variable {K : PySem.W.Frag} {W : WX} {σ : St} {ρ : Env} {Z H : Hp} {M : Mem} {α β : Type} {rel : Hp → β → α → Prop} {Qd : α → Mem → Prop} {Rd : DR} {Q : β → Hp → Prop}
theorem At.get (a : At K Z H σ ρ M) {p : Nat} {m : MO} (h : mget M p = some m) : MOk K Z H p m := (a.mem p m (mget_mem h)).2
theorem At.write (a : At K Z H σ ρ M) {p : Nat} {m m' : MO} {o : HO} (h : mget M p = some m) (hm : MOk K Z (upd H p o) p m') : Gr Z H M Z (upd H p o) (mset M p m') ∧ At K Z (upd H p o) σ ρ (mset M p m') := by
  have hz := (a.mem p m (mget_mem h)).1
  refine ⟨⟨Ex.refl Z, fun b u e => .inl e, fun b u _ e hb => ?_, fun q hq => .inl (by rw [mset_keys] at hq; exact hq)⟩, ⟨⟨fun b u e => ?_, fun q u hq => ?_, by rw [mset_keys]; exact a.nd, a.nz⟩, a.sl, a.ln⟩⟩
  · rw [upd_ne fun z => hb (by rw [z]; exact mget_key h)]; exact e
  · rw [upd_ne (ne_of_none e hz)]; exact a.zh b u e
  · rcases mset_mem a.nd hq with ⟨rfl, rfl⟩ | ⟨h1, h2⟩
    · exact ⟨hz, hm⟩
    · exact ⟨(a.mem q u h2).1, (a.mem q u h2).2.mono (Ex.refl Z) (by rw [upd_ne h1]) (Xt.upd (a.get h))⟩
theorem Go.write (G : Go K W rel σ ρ Z H M Qd Rd Q) {p : Nat} {m m' : MO} {o : HO} {v : β} {d : α} (h : mget M p = some m) (hm : MOk K Z (upd H p o) p m') (r : rel Z v d) (q : Qd d (mset M p m')) : Q v (upd H p o) :=
  G.k _ _ _ v d (G.at_.write h hm).1 (G.at_.write h hm).2 r q
/-- a list that changes no more -/
theorem At.frz (a : At K Z H σ ρ M) {p : Nat} {ds : List D} (h : mget M p = some (.lst ds)) : ∃ xs, H p = some (.lst xs) ∧ RepL K Z xs ds ∧ Gr Z H M (upd Z p (.lst xs)) H (mdel M p) ∧ At K (upd Z p (.lst xs)) H σ ρ (mdel M p) := by
  obtain ⟨hz, xs, hp, rs⟩ := a.mem p _ (mget_mem h)
  have ez : Ex Z (upd Z p (.lst xs)) := Ex.new hz
  refine ⟨xs, hp, rs, ⟨ez, fun b u e => ?_, fun b u _ e _ => e, fun q hq => .inl (((mdel_sub M p).map _).subset hq)⟩, ⟨⟨fun b u e => ?_, fun q u hq => ?_, a.nd.sublist ((mdel_sub M p).map _), nz_upd a.nz inferInstance⟩, fun i d e => ?_, a.ln⟩⟩
  · by_cases hb : b = p
    · rw [hb]; exact .inr (.inr (.inl (mget_key h)))
    · rw [upd_ne hb] at e; exact .inl e
  · by_cases hb : b = p
    · rw [hb, upd_same] at e; rw [hb, hp]; exact e
    · rw [upd_ne hb] at e; exact a.zh b u e
  · have hq' := (mdel_sub M p).subset hq
    have hne : q ≠ p := fun z => mdel_key p a.nd (z ▸ (List.mem_map.mpr ⟨(q, u), hq, rfl⟩ : q ∈ keys (mdel M p)))
    exact ⟨by rw [upd_ne hne]; exact (a.mem q u hq').1, (a.mem q u hq').2.mono ez rfl (Xt.refl H)⟩
  · obtain ⟨v, e1, r⟩ := a.sl i d e
    exact ⟨v, e1, r.mono ez⟩
end
/-- a list's value for good -/
def dFrz (a : DTE) : DTE := fun ρ M Q R => a ρ M (fun x M1 => match x with
  | .obj p => match mget M1 p with
    | some (.lst ds) => Q (.lst ds) (mdel M1 p)
    | _ => False
  | x => Q x M1) R
theorem de_frz {X : Cx} {W : WX} {e : Expr} {T : DTE} (h : DE X W e T) : DE X W e (dFrz T) :=
  wkE h fun σ H Q ⟨Z, ρ, M, Qd, Rd, G, h⟩ => G.seq (rel1 := Rep X.K) h fun Z1 H1 M1 v x G1 _ rx h1 => by
    cases x with
    | obj p =>
      cases rx
      dsimp only at h1
      cases q : mget M1 p with
      | none => rw [q] at h1; exact h1.elim
      | some m =>
        rw [q] at h1
        cases m with
        | lst ds =>
          obtain ⟨xs, hp, rs, g, a⟩ := G1.at_.frz q
          exact G1.k _ _ _ _ _ g a (.lst upd_same (rs.mono g.zz)) h1
        | _ => exact h1.elim
    | _ => exact G1.val rx h1

/-! ### in -/
def D.flat : D → Bool
  | .non => true
  | .bl _ => true
  | .int _ => true
  | .str _ => true
  | _ => false
/-- keys of dicts -/
def D.key : D → Option Key
  | .int i => some (.inl i)
  | .str x => some (.inr x)
  | _ => none
def D.keyL : List D → Option (List Key)
  | [] => some []
  | d :: ds => match d.key, D.keyL ds with
    | some k, some ks => some (k :: ks)
    | _, _ => none
def D.keyT : D → Option (List Key)
  | .tup ds => D.keyL ds
  | _ => none
def lookD {κ : Type} [DecidableEq κ] (kvs : List (κ × D)) (k : κ) : Option D := (kvs.find? fun kv => decide (kv.1 = k)).map (·.2)
def putD {κ : Type} [DecidableEq κ] (kvs : List (κ × D)) (k : κ) (v : D) : List (κ × D) :=
  if (kvs.any fun kv => decide (kv.1 = k)) = true then kvs.map (fun kv => if kv.1 = k then (kv.1, v) else kv) else kvs ++ [(k, v)]
theorem lookD_rep {κ : Type} [DecidableEq κ] {K : PySem.W.Frag} {Z : Hp} (k : κ) : ∀ {kv : List (κ × V)} {kvs : List (κ × D)}, All2 (KvR K Z) kv kvs → (valV kv k = none ∧ lookD kvs k = none) ∨ ∃ v d, valV kv k = some v ∧ lookD kvs k = some d ∧ Rep K Z v d
  | _, _, .nil => .inl ⟨rfl, rfl⟩
  | (a, v) :: kv, (b, d) :: kvs, .cons h t => by
    obtain ⟨h1, h2⟩ := h
    dsimp only at h1 h2
    subst h1
    unfold valV lookD
    rw [List.find?_cons, List.find?_cons]
    by_cases e : a = k
    · simp only [decide_eq_true e]; exact .inr ⟨v, d, rfl, rfl, h2⟩
    · simp only [decide_eq_false e]; exact lookD_rep k t
theorem any_rep {κ : Type} [DecidableEq κ] {K : PySem.W.Frag} {Z : Hp} (k : κ) : ∀ {kv : List (κ × V)} {kvs : List (κ × D)}, All2 (KvR K Z) kv kvs → (kv.any fun x => decide (x.1 = k)) = kvs.any fun x => decide (x.1 = k)
  | _, _, .nil => rfl
  | _, _, .cons h t => by rw [List.any_cons, List.any_cons, any_rep k t, h.1]
theorem All2.map2 {α β : Type} {F : α → β → Prop} {f : α → α} {g : β → β} (h : ∀ a b, F a b → F (f a) (g b)) : ∀ {l m}, All2 F l m → All2 F (l.map f) (m.map g)
  | _, _, .nil => .nil
  | _, _, .cons a t => .cons (h _ _ a) (t.map2 h)
theorem All2.snoc {α β : Type} {F : α → β → Prop} {a : α} {b : β} (h : F a b) : ∀ {l m}, All2 F l m → All2 F (l ++ [a]) (m ++ [b])
  | _, _, .nil => .cons h .nil
  | _, _, .cons x t => .cons x (t.snoc h)
theorem putD_rep {κ : Type} [DecidableEq κ] {K : PySem.W.Frag} {Z : Hp} {kv : List (κ × V)} {kvs : List (κ × D)} (k : κ) {v : V} {d : D} (r : All2 (KvR K Z) kv kvs) (h : Rep K Z v d) : All2 (KvR K Z) (putK kv k v) (putD kvs k d) := by
  unfold putK putD
  rw [any_rep k r]
  by_cases e : (kvs.any fun x => decide (x.1 = k)) = true
  · rw [if_pos e, if_pos e]
    refine r.map2 fun a b z => ?_
    by_cases ha : a.1 = k
    · rw [if_pos ha, if_pos (z.1 ▸ ha)]; exact ⟨z.1, h⟩
    · rw [if_neg ha, if_neg (fun q => ha (z.1.trans q))]; exact z
  · rw [if_neg e, if_neg e]
    exact r.snoc ⟨rfl, h⟩
theorem key_rep {K : PySem.W.Frag} {Z : Hp} {v : V} {d : D} {k : Key} (r : Rep K Z v d) (h : d.key = some k) : v = kV k := by
  cases r <;> cases h <;> rfl
theorem keyL_rep {K : PySem.W.Frag} {Z : Hp} : ∀ {vs : List V} {ds : List D} {ks : List Key}, RepL K Z vs ds → D.keyL ds = some ks → vs = ks.map kV
  | _, _, _, .nil, h => by cases h; rfl
  | v :: vs, d :: ds, ks, .cons r t, h => by
    unfold D.keyL at h
    cases hk : d.key with
    | none => rw [hk] at h; cases h
    | some k =>
      cases hl : D.keyL ds with
      | none => rw [hk, hl] at h; cases h
      | some l =>
        rw [hk, hl] at h
        cases h
        rw [List.map_cons, key_rep r hk, keyL_rep t hl]
theorem keyT_rep {K : PySem.W.Frag} {Z : Hp} {v : V} {d : D} {k : List Key} (r : Rep K Z v d) (h : d.keyT = some k) : ∃ b, v = .ref b ∧ Z b = some (.tup (k.map kV)) := by
  cases r with
  | tup hz rs => exact ⟨_, rfl, by rw [← keyL_rep rs h]; exact hz⟩
  | _ => cases h
/-- what a dict at p tells of a key -/
def DGetD (M : Mem) (p : Nat) (x : D) (r : Option D) : Prop :=
  (∃ kvs k, mget M p = some (.dK kvs) ∧ x.key = some k ∧ r = lookD kvs k) ∨ ∃ kvs k, mget M p = some (.dT kvs) ∧ x.keyT = some k ∧ r = lookD kvs k
theorem dget_ok {K : PySem.W.Frag} {σ : St} {ρ : Env} {Z H : Hp} {M : Mem} {p : Nat} {v : V} {x : D} {r : Option D} (a : At K Z H σ ρ M) (rx : Rep K Z v x) (h : DGetD M p x r) :
    (DGet H p v none ∧ r = none) ∨ ∃ w d, DGet H p v (some w) ∧ r = some d ∧ Rep K Z w d := by
  rcases h with ⟨kvs, k, e, hk, hr⟩ | ⟨kvs, k, e, hk, hr⟩
  · obtain ⟨kv, hp, al⟩ := a.get e
    rcases lookD_rep k al with ⟨h1, h2⟩ | ⟨w, d, h1, h2, h3⟩
    · exact .inl ⟨.inl ⟨kv, k, .inl hp, key_rep rx hk, h1.symm⟩, hr.trans h2⟩
    · exact .inr ⟨w, d, .inl ⟨kv, k, .inl hp, key_rep rx hk, h1.symm⟩, hr.trans h2, h3⟩
  · obtain ⟨kv, hp, al⟩ := a.get e
    obtain ⟨b, eb, hb⟩ := keyT_rep rx hk
    rcases lookD_rep k al with ⟨h1, h2⟩ | ⟨w, d, h1, h2, h3⟩
    · exact .inl ⟨.inr ⟨kv, k, b, .inl hp, eb, a.zh _ _ hb, h1.symm⟩, hr.trans h2⟩
    · exact .inr ⟨w, d, .inr ⟨kv, k, b, .inl hp, eb, a.zh _ _ hb, h1.symm⟩, hr.trans h2, h3⟩
theorem eqV_rep {K : PySem.W.Frag} {Z : Hp} {v w : V} {x y : D} (r : Rep K Z v x) (q : Rep K Z w y) (hx : x.flat = true) (hy : y.flat = true) : eqV v w = D.eqv x y := by
  cases r <;> first | cases hx | skip
  all_goals (cases q <;> first | cases hy | skip)
  all_goals (simp only [eqV, D.eqv, D.py, PyData.eqv])
theorem flat_rep {K : PySem.W.Frag} {Z : Hp} {v : V} {x : D} (r : Rep K Z v x) (hx : x.flat = true) : flatV v = true := by
  cases r <;> first | (cases hx; done) | rfl
theorem inV_rep {K : PySem.W.Frag} {Z : Hp} {v : V} {x : D} (r : Rep K Z v x) (hx : x.flat = true) : ∀ {vs : List V} {ds : List D}, RepL K Z vs ds → ds.all D.flat = true → inV v vs = D.any x ds ∧ vs.all flatV = true
  | _, _, .nil, _ => ⟨rfl, rfl⟩
  | _, _, .cons q t, h => by
    rw [List.all_cons, Bool.and_eq_true] at h
    obtain ⟨h1, h2⟩ := inV_rep r hx t h.2
    refine ⟨?_, by rw [List.all_cons, flat_rep q h.1, h2]; rfl⟩
    unfold inV at h1 ⊢
    unfold D.any
    rw [List.any_cons, h1, eqV_rep q r h.1 hx]
end Dl
namespace Dl
open PySem PySem.Spec PyProof.Rows L2
/-! # in, subscripts, slices -/
/-- x in y (n: not in) -/
def qIn (n : Bool) (x y : D) (M : Mem) (Q : DQ) : Prop := match y with
  | .str z => ∃ c : Nat, x = .str ⟨#[c]⟩ ∧ Q (.bl (xor n (decide (c ∈ z.cps.toList)))) M
  | .lst ds => (x.flat = true ∧ ds.all D.flat = true ∨ x.ok ∧ (D.lst ds).ok) ∧ Q (.bl (xor n (D.any x ds))) M
  | .tup ds => (x.flat = true ∧ ds.all D.flat = true) ∧ Q (.bl (xor n (D.any x ds))) M
  | .obj p => ∃ r, DGetD M p x r ∧ Q (.bl (xor n r.isSome)) M
  | _ => False
def rInU (n : Bool) (K : PySem.W.Frag) : R2 := fun x y H Q =>
  (∃ (c : Nat) (z : Str), x = .str ⟨#[c]⟩ ∧ y = .str z ∧ Q (.bl (xor n (decide (c ∈ z.cps.toList)))) H) ∨ rIn K n x y H Q ∨
  (∃ d ds, Dp K H x d ∧ Dp K H y (.list ds) ∧ SeqAt.shaped d = true ∧ SeqAt.shaped (.list ds) = true ∧ Q (.bl (xor n (ds.any fun z => PyData.eqv z d))) H) ∨ ∃ a o, y = .ref a ∧ DGet H a x o ∧ Q (.bl (xor n o.isSome)) H
theorem op_in_d {X : Cx} (hu : X.A.units + 1 < cLine) : OpR X (compareOp .In) (fun x y H Q => ∃ a o, y = .ref a ∧ DGet H a x o ∧ Q (.bl o.isSome) H) := by
  intro pins s σ H x y v u Q I rx ry h
  obtain ⟨a, o, rfl, g, q⟩ := h
  obtain rfl : u = Value.ref a := ry
  exact d_in hu I g rx fun s3 I3 => ⟨.bl o.isSome, H, I3, rfl, q⟩
theorem op_notIn_d {X : Cx} (hu : X.A.units + 1 < cLine) : OpR X (compareOp .NotIn) (fun x y H Q => ∃ a o, y = .ref a ∧ DGet H a x o ∧ Q (.bl (!o.isSome)) H) := by
  intro pins s σ H x y v u Q I rx ry h
  obtain ⟨a, o, rfl, g, q⟩ := h
  obtain rfl : u = Value.ref a := ry
  exact d_notIn hu I g rx fun s3 I3 => ⟨.bl (!o.isSome), H, I3, rfl, q⟩
theorem xf (b : Bool) : xor false b = b := by cases b <;> rfl
theorem xt (b : Bool) : xor true b = !b := by cases b <;> rfl
theorem or_in {X : Cx} (hu : X.A.units + 65 < cLine) : OpR X (compareOp .In) (rInU false X.K) := by
  unfold rInU
  simp only [xf]
  exact op_in_sign.or (op_in_seq.or ((op_inD hu).or (op_in_d (by omega))))
theorem or_notin {X : Cx} (hu : X.A.units + 65 < cLine) : OpR X (compareOp .NotIn) (rInU true X.K) := by
  unfold rInU
  simp only [xt]
  exact op_notIn_sign.or (op_notIn_seq.or ((op_notInD hu).or (op_notIn_d (by omega))))
section
variable {K : PySem.W.Frag}
theorem if_xor (n b : Bool) : (if n then !b else b) = xor n b := by cases n <;> cases b <;> rfl
theorem od_inG (n : Bool) : OpD K (rInU n K) (qIn n) := by
  intro W σ ρ Z H M Qd Rd Q v w x y G rx ry h
  cases y with
  | str z =>
    cases ry
    obtain ⟨c, rfl, q⟩ := h
    cases rx
    exact .inl ⟨_, _, rfl, rfl, G.val (.bl _) q⟩
  | lst ds =>
    obtain ⟨c, q⟩ := h
    cases ry with
    | lst hz rs =>
      rcases c with ⟨h1, h2⟩ | ⟨h1, h2⟩
      · obtain ⟨e1, e2⟩ := inV_rep rx h1 rs h2
        exact .inr (.inl ⟨_, _, rfl, .inl (SqL.of (G.h hz)), flat_rep rx h1, e2, by rw [e1, if_xor]; exact G.val (.bl _) q⟩)
      · refine .inr (.inr (.inl ⟨_, _, rx.dp G.at_.zh (SeqAt.canLay_of_shaped h1), by
          have z := (Rep.lst hz rs).dp G.at_.zh (SeqAt.canLay_of_shaped h2)
          simpa only [D.py] using z, h1, by have z := h2; unfold D.ok at z; simpa only [D.py] using z, ?_⟩))
        rw [any_py]; exact G.val (.bl _) q
  | tup ds =>
    obtain ⟨⟨h1, h2⟩, q⟩ := h
    cases ry with
    | tup hz rs =>
      obtain ⟨e1, e2⟩ := inV_rep rx h1 rs h2
      exact .inr (.inl ⟨_, _, rfl, .inr (SqT.of (G.h hz)), flat_rep rx h1, e2, by rw [e1, if_xor]; exact G.val (.bl _) q⟩)
  | obj p =>
    obtain ⟨r, g, q⟩ := h
    cases ry
    rcases dget_ok G.at_ rx g with ⟨h1, rfl⟩ | ⟨w, d, h1, rfl, h3⟩
    · exact .inr (.inr (.inr ⟨_, _, rfl, h1, G.val (.bl _) q⟩))
    · exact .inr (.inr (.inr ⟨_, _, rfl, h1, G.val (.bl _) q⟩))
  | _ => exact h.elim
theorem od_in : OpD K (rInU false K) (qIn false) := od_inG false
theorem od_notin : OpD K (rInU true K) (qIn true) := od_inG true
end
/-! ### x[i] -/
def dIx (x y : D) (M : Mem) (Q : DQ) : Prop := match x with
  | .tup ds => ∃ i d, y = .int i ∧ atI ds i = some d ∧ Q d M
  | .lst ds => ∃ i d, y = .int i ∧ atI ds i = some d ∧ Q d M
  | .scr ns => ∃ i n, y = .int i ∧ atI ns i = some n ∧ Q (.int n) M
  | .str z => ∃ i c, z.length ≤ 100000 ∧ y = .int i ∧ atI z.cps.toList i = some c ∧ Q (.str ⟨#[c]⟩) M
  | .obj p => match mget M p with
    | some (.lst ds) => ∃ i d, y = .int i ∧ atI ds i = some d ∧ Q d M
    | some .can => (y = .int 0 ∧ ∀ a : Int, 0 ≤ a → Q (.int a) M) ∨ (y = .int 1 ∧ ∀ b : Int, 0 ≤ b → b ≤ 2147483237 → Q (.int b) M)
    | _ => ∃ d, DGetD M p y (some d) ∧ Q d M
  | _ => False
theorem RepL.ix {K : PySem.W.Frag} {Z : Hp} {vs : List V} {ds : List D} (r : RepL K Z vs ds) {i : Int} {d : D} (h : atI ds i = some d) : ∃ v, atI vs i = some v ∧ Rep K Z v d := by
  unfold atI at h ⊢
  rw [r.length]
  cases e : ixN ds.length i with
  | none => rw [e] at h; cases h
  | some j =>
    rw [e] at h
    exact r.get (i := j) h
def rDix : R2 := fun x y H Q => ∃ a v, x = .ref a ∧ DGet H a y (some v) ∧ Q v H
theorem ix_d {X : Cx} (hu : X.A.units + 1 < cLine) : IxR X rDix := by
  intro value slice pins s σ H x y v u Q I rx ry h hs
  obtain ⟨a, w, rfl, g, q⟩ := h
  obtain rfl : v = Value.ref a := rx
  unfold PyProof.Rows.subscriptTail
  refine wpAny_bind ?_
  have hT := dict_typeIs I g
  rw [getitemInPython_of_ne hT.not_modules]
  refine wpAny_bind (wpAny_specialOf hT PySem.F.slot_dict_getitem.lookup ?_)
  have fin : wpAny (model X.prog X.w) X.A (subscripted slice false (.ref a) u) (fun r s₃ => wpAny (model X.prog X.w) X.A (letTemporaryGo value (.ref a) r >>= fun _ => pure r) (EP X pins σ Q) X.xe s₃) X.xe s := by
    rw [hs]
    exact wpAny_operating (d_getItem hu I g ry fun w' s3 I3 rw' => wpAny_bind (wpAny_letTemporaryGo (wpAny_pure ⟨w, H, I3, rw', q⟩)))
  first
    | exact wpAny_pure (wpAny_bind fin)
    | exact wpAny_bind (wpAny_pure (wpAny_bind fin))
    | exact wpAny_bind fin
def rIxU (K : PySem.W.Frag) : R2 := fun x y H Q => rIx K x y H Q ∨ rDix x y H Q
theorem or_ix {X : Cx} (hu : X.A.units + 1 < cLine) : IxR X (rIxU X.K) := ix_seq.or (ix_d hu)
theorem od_ix {K : PySem.W.Frag} : OpD K (rIxU K) dIx := by
  intro W σ ρ Z H M Qd Rd Q v w x y G rx ry h
  cases x with
  | tup ds =>
    obtain ⟨i, d, rfl, e, q⟩ := h
    cases ry
    cases rx with
    | tup hz rs =>
      obtain ⟨u, e1, r⟩ := rs.ix e
      exact .inl (.inr (.inl ⟨_, _, _, u, rfl, rfl, SqT.of (G.h hz), e1, G.val r q⟩))
  | lst ds =>
    obtain ⟨i, d, rfl, e, q⟩ := h
    cases ry
    cases rx with
    | lst hz rs =>
      obtain ⟨u, e1, r⟩ := rs.ix e
      exact .inl (.inl ⟨_, _, _, u, rfl, rfl, SqL.of (G.h hz), e1, G.val r q⟩)
  | scr ns =>
    obtain ⟨i, d, rfl, e, q⟩ := h
    cases ry
    cases rx with
    | scr hz =>
      refine .inl (.inl ⟨_, _, _, .int d, rfl, rfl, G.at_.zh.l hz, ?_, G.val (.int _) q⟩)
      unfold atI at e ⊢
      rw [List.length_map]
      cases q : ixN ns.length i with
      | none => rw [q] at e; cases e
      | some j =>
        rw [q] at e
        show (ns.map V.int)[j]? = _
        rw [List.getElem?_map, show ns[j]? = some d from e]; rfl
  | str z =>
    obtain ⟨i, c, h0, rfl, e, q⟩ := h
    cases rx; cases ry
    exact .inl (.inr (.inr ⟨_, _, c, rfl, rfl, sz h0, e, G.val (.str _) q⟩))
  | obj p =>
    cases rx
    dsimp only [dIx] at h
    cases e : mget M p with
    | none =>
      rw [e] at h
      obtain ⟨d, g, q⟩ := h
      rcases g with ⟨_, _, g, _⟩ | ⟨_, _, g, _⟩ <;> (rw [e] at g; cases g)
    | some m =>
      rw [e] at h
      cases m with
      | lst ds =>
        obtain ⟨i, d, rfl, e1, q⟩ := h
        cases ry
        obtain ⟨xs, hp, rs⟩ := G.at_.get e
        obtain ⟨u, e2, r⟩ := rs.ix e1
        exact .inl (.inl ⟨_, _, _, u, rfl, rfl, SqL.of hp, e2, G.val r q⟩)
      | can =>
        obtain ⟨a, b, hp, h1, h2, h3⟩ := G.at_.get e
        rcases h with ⟨rfl, k⟩ | ⟨rfl, k⟩
        · cases ry; exact .inl (.inl ⟨_, _, _, .int a, rfl, rfl, SqL.of hp, rfl, G.val (.int _) (k a h1)⟩)
        · cases ry; exact .inl (.inl ⟨_, _, _, .int b, rfl, rfl, SqL.of hp, rfl, G.val (.int _) (k b h2 h3)⟩)
      | _ =>
        obtain ⟨d, g, q⟩ := h
        rcases dget_ok G.at_ ry g with ⟨_, e⟩ | ⟨u, d', h1, e, r⟩
        · cases e
        · cases e; exact .inr ⟨_, u, rfl, h1, G.val r q⟩
  | _ => exact h.elim
theorem de_ix {X : Cx} {W : WX} {a b : Expr} {pos : Pos} {Ta Tb : DTE} (hu : X.A.units + 1 < cLine) (ha : DE X W a Ta) (hb : DE X W b Tb) (hs : PlainIx b := by intro _ _; rfl) : DE X W (.Subscript a b pos) (dOp dIx Ta Tb) :=
  wkE (pe_ix (or_ix hu) ha hb hs) fun _ _ _ h => dOp_ok od_ix h
/-! ### x[a:b] -/
abbrev DTO := DX (Option Int)
def lO (K : PySem.W.Frag) (W : WX) (T : DTO) : TO := lf K W (fun _ (b : Option Int) b' => b = b') T
abbrev DO (X : Cx) (W : WX) (e : Option Expr) (T : DTO) : Prop := PO X e (lO X.K W T)
def dNoP : DTO := fun _ M Q _ => Q none M
def dPart (a : DTE) : DTO := fun ρ M Q R => a ρ M (fun x M1 => match x with
  | .int i => Q (some i) M1
  | _ => False) R
theorem wkO {X : Cx} {e : Option Expr} {t t' : TO} (h : PO X e t) (w : ∀ σ H Q, t' σ H Q → t σ H Q) : PO X e t' := ⟨fun p s σ H Q I q => h.run p s σ H Q I (w σ H Q q)⟩
theorem do_none {X : Cx} {W : WX} : DO X W none dNoP := wkO po_none fun σ H Q ⟨Z, ρ, M, Qd, Rd, G, h⟩ => G.val (rel := fun _ b b' => b = b') rfl h
theorem do_some {X : Cx} {W : WX} {e : Expr} {T : DTE} (h : DE X W e T) : DO X W (some e) (dPart T) := wkO (po_some h) fun σ H Q ⟨Z, ρ, M, Qd, Rd, G, h⟩ => G.seq (rel1 := Rep X.K) h fun Z1 H1 M1 v x G1 _ rx h1 => by
  cases x <;> first | exact h1.elim | skip
  cases rx
  exact ⟨_, rfl, G1.val (rel := fun _ b b' => b = b') rfl h1⟩
def cutD (xs : List D) (lo hi : Option Int) : List D := (xs.drop (HT.sIx xs.length 0 lo)).take (HT.sIx xs.length xs.length hi - HT.sIx xs.length 0 lo)
def dSl (a : DTE) (l u : DTO) : DTE := fun ρ M Q R => a ρ M (fun x M1 => l ρ M1 (fun lo M2 => u ρ M2 (fun hi M3 => match x with
  | .str z => z.length ≤ 100000 ∧ Q (.str (cutS z lo hi)) M3
  | .lst ds => Q (.lst (cutD ds lo hi)) M3
  | .tup ds => Q (.tup (cutD ds lo hi)) M3
  | _ => False) R) R) R
theorem SlR.or' {X : Cx} {r r' : V → Option Int → Option Int → Hp → VK → Prop} (h : SlR X r) (h' : SlR X r') : SlR X (fun x l u H Q => r x l u H Q ∨ r' x l u H Q) := fun pins s σ H x v vl vu lo hi sl Q I rx hs h1 h2 q => by
  rcases q with q | q
  · exact h pins s σ H x v vl vu lo hi sl Q I rx hs h1 h2 q
  · exact h' pins s σ H x v vl vu lo hi sl Q I rx hs h1 h2 q
theorem RepL.cut {K : PySem.W.Frag} {Z : Hp} {vs : List V} {ds : List D} (r : RepL K Z vs ds) (lo hi : Option Int) : RepL K Z (cutV vs lo hi) (cutD ds lo hi) := by
  unfold cutV cutD
  rw [r.length]
  exact (r.drop _).take _
theorem de_sl {X : Cx} {W : WX} {a : Expr} {lo hi : Option Expr} {pos p2 : Pos} {Ta : DTE} {L U : DTO} (ha : DE X W a Ta) (hl : DO X W lo L) (hu : DO X W hi U) : DE X W (.Subscript a (.Slice lo hi none p2) pos) (dSl Ta L U) :=
  wkE (pe_slice (SlR.or' sl_str (SlR.or' sl_list sl_tupA)) ha hl hu) fun σ H Q ⟨Z, ρ, M, Qd, Rd, G, h⟩ => G.seq (rel1 := Rep X.K) h fun Z1 H1 M1 v x G1 _ rx h1 =>
    G1.seq (rel1 := fun _ (b : Option Int) b' => b = b') h1 fun Z2 H2 M2 l l' G2 e2 el h2 => G2.seq (rel1 := fun _ (b : Option Int) b' => b = b') h2 fun Z3 H3 M3 u u' G3 e3 eu h3 => by
      subst el eu
      replace rx := rx.mono (e2.trans e3)
      cases x <;> first | exact h3.elim | skip
      · cases rx; exact .inl ⟨_, rfl, sz h3.1, G3.val (.str _) h3.2⟩
      · cases rx with
        | tup hz rs =>
          refine .inr (.inr ⟨_, _, rfl, SqT.of (G3.h hz), fun e => ?_, fun _ p hp => G3.new (o := .tup _) hp (.tup upd_same ((rs.cut _ _).mono (Ex.new (G3.at_.zh.free hp)))) h3⟩)
          rw [rs.length] at e
          dsimp only at h3
          unfold cutD at h3
          rw [e.1, e.2, List.drop_zero, Nat.sub_zero, List.take_length] at h3
          exact G3.val (.tup hz rs) h3
      · cases rx with
        | lst hz rs => exact .inr (.inl ⟨_, _, rfl, SqL.of (G3.h hz), fun p hp => G3.new (o := .lst _) hp (.lst upd_same ((rs.cut _ _).mono (Ex.new (G3.at_.zh.free hp)))) h3⟩)
end Dl
namespace Dl
open PySem PySem.Spec PyProof.Rows L2
/-! # Built-ins -/
abbrev BF := List D → Mem → DQ → Prop
theorem RepL.one {K : PySem.W.Frag} {Z : Hp} {vs : List V} {d : D} (r : RepL K Z vs [d]) : ∃ v, vs = [v] ∧ Rep K Z v d := by
  cases r with
  | cons r t => cases t; exact ⟨_, rfl, r⟩
theorem RepL.two {K : PySem.W.Frag} {Z : Hp} {vs : List V} {d e : D} (r : RepL K Z vs [d, e]) : ∃ v w, vs = [v, w] ∧ Rep K Z v d ∧ Rep K Z w e := by
  cases r with
  | cons r t => cases t with
    | cons q t => cases t; exact ⟨_, _, rfl, r, q⟩
/-- len(x) -/
def bLen : BF := fun xs M Q => match xs with
  | [.str z] => z.length ≤ 100000 ∧ Q (.int z.length) M
  | [.tup ds] => Q (.int ds.length) M
  | [.lst ds] => Q (.int ds.length) M
  | [.scr ns] => Q (.int ns.length) M
  | [.obj p] => ∃ ds, mget M p = some (.lst ds) ∧ Q (.int ds.length) M
  | _ => False
theorem cd_len {K : PySem.W.Frag} : CallD K (fun xs H Q => ∃ x n, xs = [x] ∧ LenV K x H n ∧ Q (.int n) H) bLen := by
  intro W σ ρ Z H M Qd Rd Q vs xs G rs h
  unfold bLen at h
  split at h <;> first | exact h.elim | skip
  all_goals (obtain ⟨v, rfl, r⟩ := rs.one)
  · cases r; exact ⟨_, _, rfl, ⟨sz h.1, rfl⟩, G.val (.int _) h.2⟩
  · cases r with
    | tup hz rl => exact ⟨_, _, rfl, .inr ⟨_, SqT.of (G.h hz), rl.length.symm⟩, G.val (.int _) h⟩
  · cases r with
    | lst hz rl => exact ⟨_, _, rfl, .inl ⟨_, SqL.of (G.h hz), rl.length.symm⟩, G.val (.int _) h⟩
  · cases r with
    | scr hz => exact ⟨_, _, rfl, .inl ⟨_, G.at_.zh.l hz, (List.length_map _).symm⟩, G.val (.int _) h⟩
  · obtain ⟨ds, e, q⟩ := h
    cases r
    obtain ⟨ys, hp, rl⟩ := G.at_.get e
    exact ⟨_, _, rfl, .inl ⟨_, SqL.of hp, rl.length.symm⟩, G.val (.int _) q⟩
/-- int(x) -/
def bInt : BF := fun xs M Q => match xs with
  | [.int i] => Q (.int i) M
  | [.bl b] => Q (.int (if b then 1 else 0)) M
  | [.str a] => ∃ n, PySem.intText? a = some n ∧ a.length ≤ 640 ∧ Q (.int n) M
  | _ => False
theorem CallR.or' {X : Cx} {f : Value} {r r' : List V → Hp → VK → Prop} (h : CallR X f r) (h' : CallR X f r') : CallR X f (fun xs H Q => r xs H Q ∨ r' xs H Q) := fun pins s σ H xs us Q I rv q => by
  rcases q with q | q
  · exact h pins s σ H xs us Q I rv q
  · exact h' pins s σ H xs us Q I rv q
def rIntU : List V → Hp → VK → Prop := fun xs H Q => ((∃ i, xs = [.int i] ∧ Q (.int i) H) ∨ ∃ k, xs = [.bl k] ∧ Q (.int (if k then 1 else 0)) H) ∨ ∃ a n, xs = [.str a] ∧ PySem.intText? a = some n ∧ a.length ≤ 640 ∧ Q (.int n) H
theorem cr_int {X : Cx} : CallR X (.type "int") rIntU := CallR.or' call_int1 call_int_str
theorem cd_int {K : PySem.W.Frag} : CallD K rIntU bInt := by
  intro W σ ρ Z H M Qd Rd Q vs xs G rs h
  unfold bInt at h
  split at h <;> first | exact h.elim | skip
  all_goals (obtain ⟨v, rfl, r⟩ := rs.one)
  · cases r; exact .inl (.inl ⟨_, rfl, G.val (.int _) h⟩)
  · cases r; exact .inl (.inr ⟨_, rfl, G.val (.int _) h⟩)
  · obtain ⟨n, h1, h2, h3⟩ := h
    cases r; exact .inr ⟨_, n, rfl, h1, h2, G.val (.int _) h3⟩
/-- str(x) -/
def bStr : BF := fun xs M Q => match xs with
  | [.int i] => i.natAbs.log2 < 1920 ∧ Q (.str (toString i)) M
  | [.str a] => Q (.str a) M
  | _ => False
def rStrU : List V → Hp → VK → Prop := fun xs H Q => (∃ i, xs = [.int i] ∧ i.natAbs.log2 < 1920 ∧ Q (.str (toString i)) H) ∨ ∃ a, xs = [.str a] ∧ Q (.str a) H
theorem cr_str {X : Cx} : CallR X (.type "str") rStrU := CallR.or' call_str_int SkE.call_str_str
theorem cd_str {K : PySem.W.Frag} : CallD K rStrU bStr := by
  intro W σ ρ Z H M Qd Rd Q vs xs G rs h
  unfold bStr at h
  split at h <;> first | exact h.elim | skip
  all_goals (obtain ⟨v, rfl, r⟩ := rs.one)
  · cases r; exact .inl ⟨_, rfl, h.1, G.val (.str _) h.2⟩
  · cases r; exact .inr ⟨_, rfl, G.val (.str _) h⟩
/-- abs(x) -/
def bAbs : BF := fun xs M Q => match xs with
  | [.int i] => Q (.int (if i < 0 then -i else i)) M
  | _ => False
theorem cd_abs {K : PySem.W.Frag} : CallD K (fun xs H Q => ∃ i, xs = [.int i] ∧ Q (.int (if i < 0 then -i else i)) H) bAbs := by
  intro W σ ρ Z H M Qd Rd Q vs xs G rs h
  unfold bAbs at h
  split at h <;> first | exact h.elim | skip
  obtain ⟨v, rfl, r⟩ := rs.one
  cases r; exact ⟨_, rfl, G.val (.int _) h⟩
/-- bool(x) -/
def bBool : BF := fun xs M Q => match xs with
  | [.int i] => Q (.bl (i != 0)) M
  | [.bl b] => Q (.bl b) M
  | _ => False
theorem cd_bool {K : PySem.W.Frag} : CallD K (fun xs H Q => (∃ i, xs = [.int i] ∧ Q (.bl (i != 0)) H) ∨ ∃ k, xs = [.bl k] ∧ Q (.bl k) H) bBool := by
  intro W σ ρ Z H M Qd Rd Q vs xs G rs h
  unfold bBool at h
  split at h <;> first | exact h.elim | skip
  all_goals (obtain ⟨v, rfl, r⟩ := rs.one)
  · cases r; exact .inl ⟨_, rfl, G.val (.bl _) h⟩
  · cases r; exact .inr ⟨_, rfl, G.val (.bl _) h⟩
/-- min, max of two, or of a list of ints -/
def bMin : BF := fun xs M Q => match xs with
  | [.int i, .int j] => Q (.int (if j < i then j else i)) M
  | [.lst ds] => ∃ ns : List Int, ds = ns.map D.int ∧ 0 < ns.length ∧ ∀ m, m ∈ ns → (∀ y, y ∈ ns → m ≤ y) → Q (.int m) M
  | _ => False
def bMax : BF := fun xs M Q => match xs with
  | [.int i, .int j] => Q (.int (if j > i then j else i)) M
  | [.lst ds] => ∃ ns : List Int, ds = ns.map D.int ∧ 0 < ns.length ∧ ∀ m, m ∈ ns → (∀ y, y ∈ ns → y ≤ m) → Q (.int m) M
  | _ => False
def rMinU (K : PySem.W.Frag) : List V → Hp → VK → Prop := fun xs H Q => (∃ i j, xs = [.int i, .int j] ∧ Q (.int (if j < i then j else i)) H) ∨ rMin K xs H Q
def rMaxU (K : PySem.W.Frag) : List V → Hp → VK → Prop := fun xs H Q => (∃ i j, xs = [.int i, .int j] ∧ Q (.int (if j > i then j else i)) H) ∨ rMax K xs H Q
theorem cr_minU {X : Cx} (hc : X.calm = true) : CallR X (.builtin "min") (rMinU X.K) := CallR.or' (call_min2 hc) (cr_min hc)
theorem cr_maxU {X : Cx} (hc : X.calm = true) : CallR X (.builtin "max") (rMaxU X.K) := CallR.or' (call_max2 hc) (cr_max hc)
theorem cd_min {K : PySem.W.Frag} : CallD K (rMinU K) bMin := by
  intro W σ ρ Z H M Qd Rd Q vs xs G rs h
  unfold bMin at h
  split at h <;> first | exact h.elim | skip
  · obtain ⟨v, w, rfl, r, r'⟩ := rs.two
    cases r; cases r'; exact .inl ⟨_, _, rfl, G.val (.int _) h⟩
  · obtain ⟨v, rfl, r⟩ := rs.one
    obtain ⟨ns, rfl, h1, h2⟩ := h
    cases r with
    | lst hz rl => exact .inr ⟨_, ns, rfl, by rw [← rl.ints]; exact SqL.of (G.h hz), h1, fun m a b => G.val (.int _) (h2 m a b)⟩
theorem cd_max {K : PySem.W.Frag} : CallD K (rMaxU K) bMax := by
  intro W σ ρ Z H M Qd Rd Q vs xs G rs h
  unfold bMax at h
  split at h <;> first | exact h.elim | skip
  · obtain ⟨v, w, rfl, r, r'⟩ := rs.two
    cases r; cases r'; exact .inl ⟨_, _, rfl, G.val (.int _) h⟩
  · obtain ⟨v, rfl, r⟩ := rs.one
    obtain ⟨ns, rfl, h1, h2⟩ := h
    cases r with
    | lst hz rl => exact .inr ⟨_, ns, rfl, by rw [← rl.ints]; exact SqL.of (G.h hz), h1, fun m a b => G.val (.int _) (h2 m a b)⟩
/-- all, any of a list of bools; sum of a list of ints -/
def bAll : BF := fun xs M Q => match xs with
  | [.lst ds] => ∃ bs : List Bool, ds = bs.map D.bl ∧ Q (.bl (bs.all id)) M
  | _ => False
def bAny : BF := fun xs M Q => match xs with
  | [.lst ds] => ∃ bs : List Bool, ds = bs.map D.bl ∧ Q (.bl (bs.any id)) M
  | _ => False
def bSum : BF := fun xs M Q => match xs with
  | [.lst ds] => ∃ ns : List Int, ds = ns.map D.int ∧ Q (.int ns.sum) M
  | _ => False
theorem cd_all {K : PySem.W.Frag} : CallD K (rAll K) bAll := by
  intro W σ ρ Z H M Qd Rd Q vs xs G rs h
  unfold bAll at h
  split at h <;> first | exact h.elim | skip
  obtain ⟨v, rfl, r⟩ := rs.one
  obtain ⟨ns, rfl, h1⟩ := h
  cases r with
  | lst hz rl => exact ⟨_, ns, rfl, by rw [← rl.bls]; exact SqL.of (G.h hz), G.val (.bl _) h1⟩
theorem cd_any {K : PySem.W.Frag} : CallD K (rAny K) bAny := by
  intro W σ ρ Z H M Qd Rd Q vs xs G rs h
  unfold bAny at h
  split at h <;> first | exact h.elim | skip
  obtain ⟨v, rfl, r⟩ := rs.one
  obtain ⟨ns, rfl, h1⟩ := h
  cases r with
  | lst hz rl => exact ⟨_, ns, rfl, by rw [← rl.bls]; exact SqL.of (G.h hz), G.val (.bl _) h1⟩
theorem cd_sum {K : PySem.W.Frag} : CallD K (rSum K) bSum := by
  intro W σ ρ Z H M Qd Rd Q vs xs G rs h
  unfold bSum at h
  split at h <;> first | exact h.elim | skip
  obtain ⟨v, rfl, r⟩ := rs.one
  obtain ⟨ns, rfl, h1⟩ := h
  cases r with
  | lst hz rl => exact ⟨_, ns, rfl, by rw [← rl.ints]; exact SqL.of (G.h hz), G.val (.int _) h1⟩
/-- list(x), tuple(x) of a list or a tuple -/
def bList : BF := fun xs M Q => match xs with
  | [.lst ds] => Q (.lst ds) M
  | [.tup ds] => Q (.lst ds) M
  | [.obj p] => ∃ ds, mget M p = some (.lst ds) ∧ Q (.lst ds) M
  | _ => False
def bTuple : BF := fun xs M Q => match xs with
  | [.lst ds] => Q (.tup ds) M
  | [.tup ds] => Q (.tup ds) M
  | _ => False
def rListO (K : PySem.W.Frag) : List V → Hp → VK → Prop := fun xs H Q => ∃ p ys, xs = [.ref p] ∧ (SqL K H p ys ∨ SqT K H p ys) ∧ ∀ l, H l = none → Q (.ref l) (upd H l (.lst ys))
def rTupO (K : PySem.W.Frag) : List V → Hp → VK → Prop := fun xs H Q => ∃ p ys, xs = [.ref p] ∧ ((SqL K H p ys ∧ ∀ l, H l = none → Q (.ref l) (upd H l (.tup ys))) ∨ (SqT K H p ys ∧ Q (.ref p) H))
theorem cd_list {K : PySem.W.Frag} : CallD K (rListO K) bList := by
  intro W σ ρ Z H M Qd Rd Q vs xs G rs h
  unfold bList at h
  split at h <;> first | exact h.elim | skip
  all_goals (obtain ⟨v, rfl, r⟩ := rs.one)
  · cases r with
    | lst hz rl => exact ⟨_, _, rfl, .inl (SqL.of (G.h hz)), fun p hp => G.new (o := .lst _) hp (.lst upd_same (rl.mono (Ex.new (G.at_.zh.free hp)))) h⟩
  · cases r with
    | tup hz rl => exact ⟨_, _, rfl, .inr (SqT.of (G.h hz)), fun p hp => G.new (o := .lst _) hp (.lst upd_same (rl.mono (Ex.new (G.at_.zh.free hp)))) h⟩
  · obtain ⟨ds, e, q⟩ := h
    cases r
    obtain ⟨ys, hp0, rl⟩ := G.at_.get e
    exact ⟨_, _, rfl, .inl (SqL.of hp0), fun p hp => G.new (o := .lst _) hp (.lst upd_same (rl.mono (Ex.new (G.at_.zh.free hp)))) q⟩
theorem cd_tuple {K : PySem.W.Frag} : CallD K (rTupO K) bTuple := by
  intro W σ ρ Z H M Qd Rd Q vs xs G rs h
  unfold bTuple at h
  split at h <;> first | exact h.elim | skip
  all_goals (obtain ⟨v, rfl, r⟩ := rs.one)
  · cases r with
    | lst hz rl => exact ⟨_, _, rfl, .inl ⟨SqL.of (G.h hz), fun p hp => G.new (o := .tup _) hp (.tup upd_same (rl.mono (Ex.new (G.at_.zh.free hp)))) h⟩⟩
  · cases r with
    | tup hz rl => exact ⟨_, _, rfl, .inr ⟨SqT.of (G.h hz), G.val (.tup hz rl) h⟩⟩
/-! ### sorted(x), any length -/
def D.leS (a b : D) : Bool := !PySem.W.dataLt b.py a.py
def rSortD (K : PySem.W.Frag) : List V → Hp → VK → Prop := fun vs H Q => ∃ (a : Addr) (ps : List (V × D)), vs = [.ref a] ∧ SqL K H a (ps.map (·.1)) ∧ (∀ p ∈ ps, Dp K H p.1 p.2.py) ∧ PySem.W.AllAlike (ps.map fun p => p.2.py) ∧ PySem.W.Sortable (ps.map fun p => p.2.py) ∧
  (∀ p ∈ ps, p.2.py.depth ≤ 64) ∧ ∀ q, H q = none → Q (.ref q) (upd H q (.lst ((ps.mergeSort (PySem.W.dataLe false fun p => p.2.py)).map (·.1))))
theorem each_of {K : PySem.W.Frag} : ∀ {ps : List (V × D)} {us : List Value}, Vals (ps.map (·.1)) us → PySem.W.EachIs (fun u (p : V × D) => RelV p.1 u) us ps
  | [], _, .nil => .nil
  | p :: ps, _, .cons r t => .cons r (each_of (K := K) t)
theorem each_back : ∀ {ps : List (V × D)} {us : List Value}, PySem.W.EachIs (fun u (p : V × D) => RelV p.1 u) us ps → Vals (ps.map (·.1)) us
  | [], _, .nil => .nil
  | p :: ps, _, .cons r t => .cons r (each_back t)
theorem each_reads {X : Cx} {pins : List (Addr × Obj)} {σ : L2.St} {H : Hp} {s : Shared} (I : Inv X pins σ H s) : ∀ {ps : List (V × D)} {us : List Value}, Vals (ps.map (·.1)) us → (∀ p ∈ ps, Dp X.K H p.1 p.2.py) → PySem.W.EachIs (fun u (p : V × D) => ∃ as, Reads s.heap u p.2.py as) us ps
  | [], _, .nil, _ => .nil
  | p :: ps, _, .cons r t, h => .cons (Dp.reads I _ _ _ (h p (List.mem_cons_self ..)) r) (each_reads I t fun q hq => h q (List.mem_cons_of_mem _ hq))
theorem cr_sortD {X : Cx} (hu : X.A.units + 70 < cLine) : CallR X (.builtin "sorted") (rSortD X.K) := by
  intro pins s σ H vs us Q I r h
  obtain ⟨a, ps, rfl, hs, hd, al, so, dp, q⟩ := h
  obtain ⟨its, rv, hl, hz⟩ := I.list hs
  rw [Vals.ref1 r]
  have hlen : ps.length ≤ sizeLine := by simpa using hz
  refine PySem.W.sorted_data (bs := ps) (enc := fun p => p.2.py) hl.isList (each_of (K := X.K) rv) (each_reads I rv hd) al so hlen (fun b hb => by have := dp b hb; omega) fun out h1 h2 => ?_
  obtain ⟨ep, he'⟩ := PyProof.Rows.sortedAll_at s.heap its out.toArray
  have hlen' : ((ps.mergeSort (PySem.W.dataLe false fun p => p.2.py)).map (·.1)).length ≤ sizeLine := by
    rw [List.length_map, List.length_mergeSort]; exact hlen
  exact ⟨.ref _, upd H (s.heap.objs.size + 1) (.lst ((ps.mergeSort (PySem.W.dataLe false fun p => p.2.py)).map (·.1))), I.laid (t' := s.toks) (fun _ _ => PyProof.Rows.sortedAll_old) (Nat.le_succ _) ⟨hlen', out, ep, each_back h2, he'⟩, rfl, q _ (I.hok.fresh (Nat.le_succ _))⟩
theorem repL_pairs {K : PySem.W.Frag} {Z : Hp} : ∀ {vs : List V} {ds : List D}, RepL K Z vs ds → ∃ ps : List (V × D), ps.map (·.1) = vs ∧ ps.map (·.2) = ds ∧ ∀ p ∈ ps, Rep K Z p.1 p.2
  | _, _, .nil => ⟨[], rfl, rfl, fun _ h => by cases h⟩
  | _, _, .cons (v := v) (d := d) r t => by
    obtain ⟨ps, h1, h2, h3⟩ := repL_pairs t
    refine ⟨(v, d) :: ps, by rw [List.map_cons, h1], by rw [List.map_cons, h2], fun p hp => ?_⟩
    rcases List.mem_cons.mp hp with e | e
    · rw [e]; exact r
    · exact h3 p e
theorem pairs_repL {K : PySem.W.Frag} {Z : Hp} : ∀ {ps : List (V × D)}, (∀ p ∈ ps, Rep K Z p.1 p.2) → RepL K Z (ps.map (·.1)) (ps.map (·.2))
  | [], _ => .nil
  | p :: ps, h => .cons (h p (List.mem_cons_self ..)) (pairs_repL fun q hq => h q (List.mem_cons_of_mem _ hq))
/-- what can be sorted: alike data -/
def SortOk (ds : List D) : Prop := (∀ d ∈ ds, d.ok) ∧ PySem.W.AllAlike (ds.map D.py) ∧ PySem.W.Sortable (ds.map D.py)
def sortD (ds : List D) : List D := ds.mergeSort D.leS
theorem sortD_pairs (ps : List (V × D)) : (ps.mergeSort (PySem.W.dataLe false fun p => p.2.py)).map (·.2) = sortD (ps.map (·.2)) := by
  unfold sortD
  refine List.map_mergeSort fun a _ b _ => ?_
  rw [PySem.W.dataLe_eq]; rfl
def bSorted : BF := fun xs M Q => match xs with
  | [.lst ds] => SortOk ds ∧ Q (.lst (sortD ds)) M
  | [.obj p] => ∃ ds, mget M p = some (.lst ds) ∧ SortOk ds ∧ Q (.lst (sortD ds)) M
  | _ => False
theorem sort_fin {K : PySem.W.Frag} {W : WX} {σ : L2.St} {ρ : Env} {Z H : Hp} {M : Mem} {Qd : DQ} {Rd : DR} {Q : VK} {a : Addr} {ys : List V} {ds : List D} (G : Go K W (Rep K) σ ρ Z H M Qd Rd Q) (hs : SqL K H a ys) (rl : RepL K Z ys ds) (so : SortOk ds) (q : Qd (.lst (sortD ds)) M) : rSortD K [.ref a] H Q := by
  obtain ⟨ps, h1, h2, h3⟩ := repL_pairs rl
  obtain ⟨s1, s2, s3⟩ := so
  have e : ds.map D.py = ps.map fun p => p.2.py := by rw [← h2, List.map_map]; rfl
  rw [e] at s2 s3
  have ok : ∀ p ∈ ps, p.2.ok := fun p hp => s1 _ (by rw [← h2]; exact List.mem_map.mpr ⟨p, hp, rfl⟩)
  refine ⟨a, ps, rfl, by rw [h1]; exact hs, fun p hp => (h3 p hp).dp G.at_.zh (SeqAt.canLay_of_shaped (ok p hp)), s2, s3, fun p hp => ?_, fun t ht => ?_⟩
  · have z := ok p hp
    unfold D.ok SeqAt.shaped at z
    simpa using (by simpa using z : _ ∧ _).2
  · refine G.new (o := .lst _) ht (.lst upd_same ?_) q
    rw [← h2, ← sortD_pairs]
    exact (pairs_repL fun p hp => h3 p (List.mem_mergeSort.mp hp)).mono (Ex.new (G.at_.zh.free ht))
theorem cd_sorted {K : PySem.W.Frag} : CallD K (rSortD K) bSorted := by
  intro W σ ρ Z H M Qd Rd Q vs xs G rs h
  unfold bSorted at h
  split at h <;> first | exact h.elim | skip
  all_goals (obtain ⟨v, rfl, r⟩ := rs.one)
  · cases r with
    | lst hz rl => exact sort_fin G (SqL.of (G.h hz)) rl h.1 h.2
  · obtain ⟨ds, e, h1, h2⟩ := h
    cases r
    obtain ⟨ys, hp0, rl⟩ := G.at_.get e
    exact sort_fin G (SqL.of hp0) rl h1 h2
end Dl
namespace Dl
open PySem PySem.Spec PyProof.Rows L2
/-! # What changes; texts; isinstance -/
/-- x.append(y) -/
def dApp (a b : DTE) : DTE := fun ρ M Q R => a ρ M (fun x M1 => ∃ p ds0, x = .obj p ∧ mget M1 p = some (.lst ds0) ∧ b ρ M1 (fun y M2 => ∃ ds, mget M2 p = some (.lst ds) ∧ ds.length < 100000 ∧ Q .non (mset M2 p (.lst (ds ++ [y])))) R) R
/-- x[i] = y: on a list of two that draws are made from, on a dict -/
def qPut (x k y : D) (M : Mem) (Q : Mem → Prop) : Prop := match x with
  | .obj p => match mget M p with
    | some .can => ∃ n, y = .int n ∧ 0 ≤ n ∧ (k = .int 0 ∨ (k = .int 1 ∧ n ≤ 2147483237)) ∧ Q M
    | some (.dK kvs) => ∃ kk, k.key = some kk ∧ kvs.length < 100000 ∧ Q (mset M p (.dK (putD kvs kk y)))
    | some (.dT kvs) => ∃ kk, k.keyT = some kk ∧ kvs.length < 100000 ∧ Q (mset M p (.dT (putD kvs kk y)))
    | some (.lst ds) => ∃ n j, k = .int n ∧ ixN ds.length n = some j ∧ Q (mset M p (.lst (ds.set j y)))
    | _ => False
  | _ => False
def dPut (o i v : DTE) : DTS := fun E ρ M R => v ρ M (fun y M1 => o ρ M1 (fun x M2 => i ρ M2 (fun k M3 => qPut x k y M3 (fun M4 => E.nx ρ M4)) R) R) R
/-- text methods of one text -/
def dM1 (f : Str → D → Mem → DQ → Prop) (a b : DTE) : DTE := fun ρ M Q R => a ρ M (fun x M1 => ∃ z, x = .str z ∧ b ρ M1 (fun y M2 => f z y M2 Q) R) R
def mJoin (z : Str) (y : D) (M : Mem) (Q : DQ) : Prop := ∃ ys : List Str, y = .lst (ys.map D.str) ∧ ((ys.map (·.length)).sum + ys.length * z.length ≤ 16777216) ∧ Q (.str (Txt.join z ys)) M
def mSplit (z : Str) (y : D) (M : Mem) (Q : DQ) : Prop := ∃ b, y = .str b ∧ (b.length == 0) = false ∧ z.length ≤ 100000 ∧ Q (.lst ((Txt.split z b).map D.str)) M
def mCount (z : Str) (y : D) (M : Mem) (Q : DQ) : Prop := ∃ b, y = .str b ∧ Q (.int (Txt.count z b)) M
/-- {x} in a text -/
def dFmt (a : DTE) : DTE := fun ρ M Q R => a ρ M (fun x M1 => (∃ z, x = .str z ∧ z.length ≤ 100000 ∧ Q (.str z) M1) ∨ ∃ i : Int, x = .int i ∧ i.natAbs.log2 < 1920 ∧ Q (.str (toString i)) M1) R
def dJs : List DTE → Str → Dl.Env → Mem → DQ → DR → Prop
  | [], acc, _, M, Q, _ => Q (.str acc) M
  | t :: ts, acc, ρ, M, Q, R => t ρ M (fun x M1 => ∃ y : Str, x = .str y ∧ (acc ++ y).length ≤ 100000 ∧ dJs ts (acc ++ y) ρ M1 Q R) R
def dJoined (ts : List DTE) : DTE := fun ρ M Q R => dJs ts Str.empty ρ M Q R
/-! isinstance -/
def D.ty : D → Option String
  | .non => some "NoneType" | .bl _ => some "bool" | .int _ => some "int" | .str _ => some "str" | .tup _ => some "tuple" | .lst _ => some "list" | _ => none
def D.isInt : D → Bool
  | .bl _ => true | .int _ => true | _ => false
def D.isBool : D → Bool
  | .bl _ => true | _ => false
def D.isStr : D → Bool
  | .str _ => true | _ => false
def D.isTup : D → Bool
  | .tup _ => true | _ => false
def D.isLst : D → Bool
  | .lst _ => true | _ => false
def dIsi (f : D → Bool) (a : DTE) : DTE := fun ρ M Q R => a ρ M (fun x M1 => x.ty.isSome = true ∧ Q (.bl (f x)) M1) R
/-- f tells the type named T -/
def IsTy (T : String) (f : D → Bool) : Prop := ∀ (d : D) (s : String), d.ty = some s → kitB s T = some (f d)
theorem isty_int : IsTy "int" D.isInt := fun d s h => by cases d <;> cases h <;> (dsimp only [D.isInt]; decide +kernel)
theorem isty_bool : IsTy "bool" D.isBool := fun d s h => by cases d <;> cases h <;> (dsimp only [D.isBool]; decide +kernel)
theorem isty_str : IsTy "str" D.isStr := fun d s h => by cases d <;> cases h <;> (dsimp only [D.isStr]; decide +kernel)
theorem isty_tup : IsTy "tuple" D.isTup := fun d s h => by cases d <;> cases h <;> (dsimp only [D.isTup]; decide +kernel)
theorem isty_lst : IsTy "list" D.isLst := fun d s h => by cases d <;> cases h <;> (dsimp only [D.isLst]; decide +kernel)
section
variable {K : PySem.W.Frag}
theorem ty_rep {Z H : Hp} {v : V} {d : D} {s : String} (e : Ex Z H) (r : Rep K Z v d) (h : d.ty = some s) : TyX K H v (.type s) := by
  cases r <;> cases h
  · exact .base .non
  · exact .base (.bl _)
  · exact .base (.int _)
  · exact .base (.str _)
  · exact .base (.tup (e _ _ ‹_›))
  · exact .base (.lst (e _ _ ‹_›))
end
section
variable {X : Cx} {W : WX} {a b c e e1 e2 o i : Expr} {es : List Expr} {pos p apos cpos p2 pos' : Pos} {Ta Tb Tc : DTE} {TA : DTA}
theorem de_app (ha : DE X W a Ta) (hb : DE X W b Tb) (hbase : attributeBase a "append" X.env (eval a X.env) = eval a X.env := by rfl)
    (hfew : ((backTo cpos (starEach [b] X.env)).all (fun x => !x.1) && (backToKw cpos (keywordEach [] X.env)).all (fun x => x.1.isSome)
      && decide (([b] : List Expr).length + ([] : List Keyword).length + (if ([] : List Keyword).isEmpty then 0 else 1) < 30)) = true := by rfl)
    (hline : (apos.endLine == cpos.line) = true := by rfl) (hs : starEach [b] X.env = (false, eval b X.env) :: starEach [] X.env := by rfl) :
    DE X W (.Call (.Attribute a "append" apos) [b] [] cpos) (dApp Ta Tb) :=
  wkE (pe_bm PySem.F.plainAttrs_list PySem.F.slot_list_append PySem.F.type_list_append mt_append ha (pa_cons hb pa_nil hs) hbase hfew hline hs rfl) fun σ H Q ⟨Z, ρ, M, Qd, Rd, G, h⟩ => G.seq (rel1 := Rep X.K) h fun Z1 H1 M1 v x G1 _ rx h1 => by
    obtain ⟨q, ds0, rfl, e0, h1⟩ := h1
    cases rx
    obtain ⟨xs0, hp0, _⟩ := G1.at_.get e0
    refine ⟨.inl ⟨rfl, xs0, .inl (.inl hp0)⟩, ?_⟩
    refine G1.seq (rel1 := Rep X.K) h1 fun Z2 H2 M2 w y G2 _ ry h2 => ?_
    obtain ⟨ds, e1, hl, h2⟩ := h2
    obtain ⟨xs, hp, rs⟩ := G2.at_.get e1
    have hlen := rs.length
    have big : (100000 : Nat) < sizeLine := by decide
    exact ⟨q, xs, w, rfl, rfl, hp, by omega, G2.write (m' := .lst (ds ++ [y])) e1 ⟨_, upd_same, rs.append (.cons ry .nil)⟩ .non h2⟩
def rPutU : TSet := fun o i v H Q => rSetL o i v H Q ∨ ∃ a H4, o = .ref a ∧ DPut H a i v H4 ∧ Q H4
theorem or_put (hu : X.A.units + 1 < cLine) : PSet X rPutU := by
  intro pins s σ H o i v ov iv u Q I ro ri rv h
  rcases h with h | ⟨a, H4, rfl, g, q⟩
  · exact set_list pins s σ H o i v ov iv u Q I ro ri rv h
  · obtain rfl : ov = Value.ref a := ro
    exact d_setItem hu I g ri rv fun s4 I4 => ⟨H4, I4, q⟩
theorem put_ok {K : PySem.W.Frag} {σ : L2.St} {ρ : Dl.Env} {Z H : Hp} {M : Mem} {Qd : Mem → Prop} {Q : Hp → Prop} {x k y : D} {vo vi vv : V} (at_ : At K Z H σ ρ M) (rx : Rep K Z vo x) (rk : Rep K Z vi k) (ry : Rep K Z vv y)
    (h : qPut x k y M Qd) (kk : ∀ H' M', Gr Z H M Z H' M' → At K Z H' σ ρ M' → Qd M' → Q H') : rPutU vo vi vv H Q := by
  cases x <;> first | exact h.elim | skip
  rename_i q
  cases rx
  dsimp only [qPut] at h
  have big : (100000 : Nat) < sizeLine := by decide
  cases e : mget M q with
  | none => rw [e] at h; exact h.elim
  | some m =>
    rw [e] at h
    cases m with
    | lst ds =>
      obtain ⟨n, j, rfl, hj, q1⟩ := h
      cases rk
      obtain ⟨xs, hp, rs⟩ := at_.get e
      obtain ⟨g, a'⟩ := at_.write (o := .lst (xs.set j vv)) (m' := .lst (ds.set j y)) e ⟨_, upd_same, rs.set ry j⟩
      exact .inl ⟨_, xs, n, j, rfl, rfl, hp, by rw [rs.length]; exact hj, kk _ _ g a' q1⟩
    | can =>
      obtain ⟨n, rfl, h0, hk, q1⟩ := h
      cases ry
      obtain ⟨a0, b0, hp, c1, c2, c3⟩ := at_.get e
      have same : mset M q .can = M := by
        clear h0 hk q1 hp c1 c2 c3 kk rk at_
        induction M with
        | nil => rfl
        | cons z r ih =>
          unfold mget at e
          unfold mset
          by_cases ez : z.1 = q
          · rw [if_pos ez] at e ⊢
            obtain ⟨z1, z2⟩ := z
            have e2 : z2 = .can := Option.some.inj e
            have e3 : z1 = q := ez
            rw [e2, e3]
          · rw [if_neg ez] at e ⊢
            rw [ih e]
      rcases hk with rfl | ⟨rfl, hk⟩
      · cases rk
        obtain ⟨g, a'⟩ := at_.write (o := .lst [.int n, .int b0]) (m' := .can) e ⟨n, b0, upd_same, h0, c2, c3⟩
        rw [same] at g a'
        exact .inl ⟨_, _, 0, 0, rfl, rfl, hp, rfl, kk _ _ g a' q1⟩
      · cases rk
        obtain ⟨g, a'⟩ := at_.write (o := .lst [.int a0, .int n]) (m' := .can) e ⟨a0, n, upd_same, c1, h0, hk⟩
        rw [same] at g a'
        exact .inl ⟨_, _, 1, 1, rfl, rfl, hp, rfl, kk _ _ g a' q1⟩
    | dK kvs =>
      obtain ⟨k', hk, hl, q1⟩ := h
      obtain ⟨kv, hp, al⟩ := at_.get e
      obtain ⟨g, a'⟩ := at_.write (o := .dK (putK kv k' vv)) (m' := .dK (putD kvs k' y)) e ⟨_, upd_same, putD_rep k' al ry⟩
      have hlen := al.length
      exact .inr ⟨_, _, rfl, .inl ⟨kv, k', hp, key_rep rk hk, by omega, rfl⟩, kk _ _ g a' q1⟩
    | dT kvs =>
      obtain ⟨k', hk, hl, q1⟩ := h
      obtain ⟨kv, hp, al⟩ := at_.get e
      obtain ⟨g, a'⟩ := at_.write (o := .dT (putK kv k' vv)) (m' := .dT (putD kvs k' y)) e ⟨_, upd_same, putD_rep k' al ry⟩
      obtain ⟨b', eb, hb⟩ := keyT_rep rk hk
      have hlen := al.length
      exact .inr ⟨_, _, rfl, .inr ⟨kv, k', b', hp, eb, at_.zh _ _ hb, by omega, rfl⟩, kk _ _ g a' q1⟩
    | ins c fs => exact h.elim
    | tab q => exact h.elim
theorem ds_put (hu : X.A.units + 1 < cLine) (ho : DE X W o Ta) (hi : DE X W i Tb) (hv : DE X W e Tc) (hs : swapsWithSole [.Subscript o i pos'] e pos.line X.env = pure false := by rfl) (hw : swappedStores [.Subscript o i pos'] e X.env = pure none := by rfl)
    (h1 : (assignEach [.Subscript o i pos'] X.env).map (·.2) = [assign (.Subscript o i pos') X.env] := by rfl)
    (ha : ∀ v, assign (.Subscript o i pos') X.env v = (do
      let ov ← holding [v] (eval o X.env)
      let iv ← holding [v, ov] (eval i X.env)
      standAt pos'
      holding [v, ov, iv] (setItem ov iv v)
      release [v, ov, iv] []) := by intro _; rfl) : DS X W (.Assign [.Subscript o i pos'] e pos) (dPut Ta Tb Tc) :=
  wkS (ps_asg hv (pg_sub ho hi (or_put hu) ha) hs hw h1) fun D σ H ⟨Z, ρ, M, E, Rd, G, h⟩ => G.seq (rel1 := Rep X.K) h fun Z1 H1 M1 vv y G1 g1 ry h1 =>
    G1.seq (rel1 := Rep X.K) h1 fun Z2 H2 M2 vo x G2 g2 rx h2 => G2.seq (rel1 := Rep X.K) h2 fun Z3 H3 M3 vi k G3 g3 rk h3 =>
      put_ok (Qd := fun M4 => E.nx ρ M4) G3.at_ (rx.mono g3.zz) rk (ry.mono (g2.zz.trans g3.zz)) h3 fun H' M' g a q => G3.nx Z3 H' M' σ ρ g a q
/-! texts -/
theorem m1_ok {K : PySem.W.Frag} {f : Str → D → Mem → DQ → Prop} {r : V → List V → Hp → VK → Prop} {to te : TE}
    (hf : ∀ {W : WX} {σ : L2.St} {ρ : Dl.Env} {Z H : Hp} {M : Mem} {Qd : DQ} {Rd : DR} {Q : VK} {z : Str} {w : V} {y : D}, Go K W (Rep K) σ ρ Z H M Qd Rd Q → Rep K Z w y → f z y M Qd → r (.str z) [w] H Q)
    (wo : ∀ σ H Q, lE K W Ta σ H Q → to σ H Q) (we : ∀ σ H Q, lE K W Tb σ H Q → te σ H Q) {σ : L2.St} {H : Hp} {Q : VK} (h : lE K W (dM1 f Ta Tb) σ H Q) : tM1 r to te σ H Q := by
  obtain ⟨Z, ρ, M, Qd, Rd, G, h⟩ := h
  refine wo _ _ _ (G.seq (rel1 := Rep K) h fun Z1 H1 M1 v x G1 _ rx h1 => ?_)
  obtain ⟨z, rfl, h1⟩ := h1
  cases rx
  exact ⟨⟨z, rfl⟩, we _ _ _ (G1.seq (rel1 := Rep K) h1 fun Z2 H2 M2 w y G2 _ ry h2 => hf G2 ry h2)⟩
theorem de_join (ho : DE X W o Ta) (he : DE X W e Tb) (hs : starEach [e] X.env = [(false, eval e X.env)] := by rfl) (hbase : attributeBase o "join" X.env (eval o X.env) = eval o X.env := by rfl) (hline : (apos.endLine == pos.line) = true := by rfl) :
    DE X W (.Call (.Attribute o "join" apos) [e] [] pos) (dM1 mJoin Ta Tb) :=
  wkE (pe_join ho he hs hbase hline) fun σ H Q h => m1_ok (fun G ry h => by
    obtain ⟨ys, rfl, h1, h2⟩ := h
    cases ry with
    | lst hz rl => exact ⟨_, _, ys, rfl, rfl, .inl (by rw [← rl.strs]; exact SqL.of (G.h hz)), h1, G.val (.str _) h2⟩) (fun _ _ _ q => q) (fun _ _ _ q => q) h
theorem de_split (ho : DE X W o Ta) (he : DE X W e Tb) (hs : starEach [e] X.env = [(false, eval e X.env)] := by rfl) (hbase : attributeBase o "split" X.env (eval o X.env) = eval o X.env := by rfl) (hline : (apos.endLine == pos.line) = true := by rfl) :
    DE X W (.Call (.Attribute o "split" apos) [e] [] pos) (dM1 mSplit Ta Tb) :=
  wkE (pe_split ho he hs hbase hline) fun σ H Q h => m1_ok (fun G ry h => by
    obtain ⟨b, rfl, h1, h2, h3⟩ := h
    cases ry
    exact ⟨_, b, rfl, rfl, h1, by have : (100002 : Nat) ≤ sizeLine := by decide
                                  omega, fun p hp => G.new (o := .lst _) hp (.lst upd_same (repL_strs _)) h3⟩) (fun _ _ _ q => q) (fun _ _ _ q => q) h
theorem de_fmt (he : DE X W e Ta) : DE X W (.FormattedValue e (-1) none pos) (dFmt Ta) :=
  wkE (pe_fmt he) fun σ H Q ⟨Z, ρ, M, Qd, Rd, G, h⟩ => G.seq (rel1 := Rep X.K) h fun Z1 H1 M1 v x G1 _ rx h1 => by
    rcases h1 with ⟨z, rfl, hl, q⟩ | ⟨i, rfl, hl, q⟩
    · cases rx; exact .inl ⟨z, rfl, sz hl, G1.val (.str _) q⟩
    · cases rx; exact .inr ⟨i, rfl, hl, G1.val (.str _) q⟩
inductive DJ (X : Cx) (W : WX) : List Expr → List DTE → List TE → Prop where
  | nil : DJ X W [] [] []
  | cons {e : Expr} {T : DTE} {es : List Expr} {Ts : List DTE} {ts : List TE} (h : DE X W e T) (r : DJ X W es Ts ts) : DJ X W (e :: es) (T :: Ts) (lE X.K W T :: ts)
theorem DJ.pj {es : List Expr} {Ts : List DTE} {ts : List TE} : DJ X W es Ts ts → PJ X es ts
  | .nil => .nil
  | .cons h r => .cons h r.pj
theorem DJ.ok {es : List Expr} {Ts : List DTE} {ts : List TE} (j : DJ X W es Ts ts) : ∀ {σ : L2.St} {ρ : Dl.Env} {Z H : Hp} {M : Mem} {Qd : DQ} {Rd : DR} {Q : VK} {acc : Str}, Go X.K W (Rep X.K) σ ρ Z H M Qd Rd Q → dJs Ts acc ρ M Qd Rd → tJs ts acc σ H fun out H1 => Q (.str out) H1 := by
  induction j with
  | nil => intro σ ρ Z H M Qd Rd Q acc G h; exact G.val (.str _) h
  | cons hh r ih =>
    intro σ ρ Z H M Qd Rd Q acc G h
    refine G.seq (rel1 := Rep X.K) h fun Z1 H1 M1 v x G1 _ rx h1 => ?_
    obtain ⟨y, rfl, hl, q⟩ := h1
    cases rx
    exact ⟨y, rfl, sz hl, ih G1 q⟩
theorem de_joined {v1 v2 : Expr} {rest : List Expr} {Ts : List DTE} {ts : List TE} (h : DJ X W (v1 :: v2 :: rest) Ts ts) : DE X W (.JoinedStr (v1 :: v2 :: rest) pos) (dJoined Ts) :=
  wkE (pe_joined h.pj) fun σ H Q ⟨Z, ρ, M, Qd, Rd, G, q⟩ => h.ok G q
/-! isinstance -/
theorem de_isi {x : Str} {T : String} {f : D → Bool} (hT : IsTy T f) (hv : bootBuiltins x = some (.type T)) (he : DE X W e Ta) (hm1 : X.mg "isinstance" = none) (hm2 : X.mg x = none) (hg1 : Gl X "isinstance" := by rfl) (hg2 : Gl X x := by rfl)
    (hn : x ≠ "__name__" := by decide) (hd : (x == ("__debug__" : Str)) = false := by decide)
    (hs : starEach [e, .Name x p2] X.env = (false, eval e X.env) :: starEach [.Name x p2] X.env := by rfl) (hs2 : starEach [.Name x p2] X.env = (false, eval (.Name x p2) X.env) :: starEach [] X.env := by rfl)
    (hpl : (backTo pos (starEach [.Name x p2] X.env)).any (·.1) = false := by rfl) :
    DE X W (.Call (.Name "isinstance" p) [e, .Name x p2] [] pos) (dIsi f Ta) :=
  wkE (pe_callB call_isi hg1 hm1 (by decide +kernel) (pa_cons he (pa_cons (pe_bltn hg2 hm2 hv (v := .ty T) rfl hn hd) pa_nil hs2) hs) (by decide) (by decide) hs hpl) fun σ H Q ⟨Z, ρ, M, Qd, Rd, G, h⟩ =>
    G.seq (rel1 := Rep X.K) h fun Z1 H1 M1 v x G1 _ rx h1 => by
      obtain ⟨h0, q⟩ := h1
      obtain ⟨s, hs⟩ := Option.isSome_iff_exists.mp h0
      exact ⟨v, .ty T, _, _, _, rfl, .ty T, ty_rep G1.at_.zh rx hs, kit_ty (hT _ _ hs), G1.val (.bl _) q⟩
end
end Dl
namespace Dl
open PySem PySem.Spec PyProof.Rows L2
/-! # What is walked -/
/-! ### range of ints of any size -/
theorem turn_long {P : Program} {w : World} {K : PySem.W.Frag} {tg : Expr} (it : Addr) (lo : Int) (n : Nat) : Turn P w K tg (Itr lo n) [it] it (fun i h => IsLongIter h it (lo + (i : Nat) * 1) ((n : Int) - (i : Nat)) 1) where
  mem := by simp
  obj := fun i h st b hb => by
    cases List.mem_singleton.mp hb
    exact ⟨_, st, fun v z => nomatch z⟩
  keep := fun i h h' st k => k it (by simp) _ st
  item := by
    rintro X rfl rfl rfl hc i pins s σ H E I hf st hg
    obtain ⟨f0, f1, f2, f3, f4, f5⟩ := hf it (by simp)
    refine (Walks.longrange (prog := X.prog) (w := X.w) (I.ok.hd hc) it lo 1 n).item i s _ _ hg st fun v h' tk ⟨t, hv⟩ st' kk => ?_
    subst hv
    have I1 : L2.Inv X pins σ H { s with heap := h', toks := tk } := I.turned (fun b o hb e => kk b o (by simpa using hb) e) f0 f1 f3 f4 f5
    refine ⟨_, rfl, go_of (s := { s with heap := h', toks := tk }) (n := "longrange_iterator") st' rfl rfl (by decide) ⟨.int (lo + i), H, I1, ⟨t, by rw [Int.mul_one]⟩, ⟨rfl, rfl⟩, st', fun b hb => (hf b hb).1⟩⟩
  done := by
    rintro X rfl rfl rfl hc i pins s σ H E I hf st hg
    obtain ⟨f0, f1, f2, f3, f4, f5⟩ := hf it (by simp)
    exact wpAny_pyNext_long_end (I.ok.hd hc) st (by have : n ≤ i := hg; omega) fun h' eb => ⟨rfl, I.turned (t' := s.toks) (fun b o hb e => eb b o hb e) f0 f1 f3 f4 f5⟩
  self := fun _ _ _ _ _ st h => wpAny_pyIter_longiter st h
theorem rg_size (lo hi : Int) : Builtin.Range.rangeSize lo hi 1 = ((hi - lo).toNat : Int) := by rw [rangeSize_one]; split <;> omega
theorem range_any {X : Cx} {tg : Expr} {pins : List (Addr × Obj)} {σ : L2.St} {H : Hp} {s : Shared} {R : It → Hp → Prop} {E : Value → Shared → Prop} {lo hi : Int} {t u v : Tok} {tk : Nat} (I : L2.Inv X pins σ H s)
    (q : R (Itr lo (hi - lo).toNat) H) : wpAny (model X.prog X.w) X.A (pyIter (.ref s.heap.objs.size)) (PIE X pins σ tg R) E { s with heap := s.heap.push { cls := .type "range", data := .fields #[.int lo t, .int hi u, .int 1 v] }, toks := tk } := by
  have I1 : L2.Inv X pins σ H { s with heap := s.heap.push { cls := .type "range", data := .fields #[.int lo t, .int hi u, .int 1 v] }, toks := tk } := I.kept fun b o e => Heap.get?_push_of_some _ e
  have e1 : lo + ((0 : Nat) : Int) * 1 = lo := by simp
  have e2 : (((hi - lo).toNat : Nat) : Int) - ((0 : Nat) : Int) = Builtin.Range.rangeSize lo hi 1 := by rw [rg_size]; simp
  cases hs : Builtin.Range.small lo hi 1 with
  | true =>
    refine wpAny_pyIter_range (IsRange.new ..) hs (pi_one (tk := tk) I1 _ (turn_range _ lo (hi - lo).toNat) ?_ q)
    dsimp only
    rw [e1, e2]
    exact Heap.get?_push_size _ rfl
  | false =>
    refine wpAny_pyIter_longrange (IsRange.new ..) hs (pi_one (tk := tk) I1 _ (turn_long _ lo (hi - lo).toNat) ?_ q)
    dsimp only
    rw [e1, e2]
    exact Heap.get?_push_size _ rfl
/-- lo, lo + 1, .. -/
def rgD (lo : Int) (n : Nat) : List D := (List.range n).map fun i => D.int (lo + (i : Nat))
theorem rgD_length (lo : Int) (n : Nat) : (rgD lo n).length = n := by simp [rgD]
theorem rgD_get {lo : Int} {n i : Nat} (h : i < n) : (rgD lo n)[i]? = some (.int (lo + (i : Nat))) := by simp [rgD, h]
theorem walk_rg {K : PySem.W.Frag} {Z : Hp} (lo : Int) (n : Nat) : Walk K Z (Itr lo n) (rgD lo n) where
  stop := fun H _ => by show n ≤ _; rw [rgD_length]; exact Nat.le_refl _
  go := fun i H _ hi => by rw [rgD_length] at hi; exact hi
  yld := fun i H v H' d _ h hd => by
    obtain ⟨rfl, rfl⟩ := h
    by_cases hi : i < n
    · rw [rgD_get hi] at hd
      cases hd
      exact .inl ⟨rfl, .int _⟩
    · rw [List.getElem?_eq_none (by rw [rgD_length]; omega)] at hd; cases hd
def dRg1 (a : DTE) : DTA := fun ρ M Q R => a ρ M (fun x M1 => ∃ n, x = .int n ∧ Q (rgD 0 n.toNat) M1) R
def dRg2 (a b : DTE) : DTA := fun ρ M Q R => a ρ M (fun x M1 => b ρ M1 (fun y M2 => ∃ i j, x = .int i ∧ y = .int j ∧ Q (rgD i (j - i).toNat) M2) R) R
def iRgU (ta : TA) : TI := fun σ H R => ta σ H fun vs H1 => (∃ j : Int, vs = [.int j] ∧ R (Itr 0 j.toNat) H1) ∨ ∃ i j : Int, vs = [.int i, .int j] ∧ R (Itr i (j - i).toNat) H1
theorem pi_rgU {X : Cx} {tg e : Expr} {es : List Expr} {ta : TA} {p pos : Pos} (hg : Gl X "range") (hm : X.mg "range" = none) (ha : PA X (e :: es) ta)
    (hs : starEach (e :: es) X.env = (false, eval e X.env) :: starEach es X.env := by rfl) (hpl : (backTo pos (starEach es X.env)).any (·.1) = false := by rfl) : PI X tg (.Call (.Name "range" p) (e :: es) [] pos) (iRgU ta) := by
  refine ⟨fun pins s σ H R I h => ?_⟩
  refine Call_ (ld_blt I hg hm boot_range (PyProof.Rows.callWith_type1 (thn (ha.run pos pins s σ H _ I h) fun us s1 ⟨vs, H1, I1, r1, q1⟩ => ?_) hs hpl))
  rcases q1 with ⟨j, rfl, q⟩ | ⟨i, j, rfl, q⟩
  · obtain ⟨u, rfl, t, rfl⟩ := Vals.one r1
    exact call_range_1 (range_any I1 (by simpa using q))
  · obtain ⟨u, u', rfl, ⟨t, rfl⟩, ⟨t', rfl⟩⟩ := Vals.two r1
    exact call_range_2 (range_any I1 q)
section
variable {X : Cx} {W : WX} {tg a b e : Expr} {es : List Expr} {p pos : Pos} {Ta Tb : DTE}
theorem di_rg1 (hm : X.mg "range" = none) (ha : DE X W a Ta) (hg : Gl X "range" := by rfl) (hs : starEach [a] X.env = (false, eval a X.env) :: starEach [] X.env := by rfl) : DI X W tg (.Call (.Name "range" p) [a] [] pos) (dRg1 Ta) :=
  wkI (pi_rgU hg hm (pa_cons ha pa_nil hs) hs rfl) fun σ H R ⟨Z, ρ, M, Qd, Rd, G, h⟩ => G.seq (rel1 := Rep X.K) h fun Z1 H1 M1 v x G1 _ rx h1 => by
    obtain ⟨n, rfl, q⟩ := h1
    cases rx
    exact .inl ⟨n, rfl, G1.val (rel := fun Z J ds => Walk X.K Z J ds) (walk_rg _ _) q⟩
theorem di_rg2 (hm : X.mg "range" = none) (ha : DE X W a Ta) (hb : DE X W b Tb) (hg : Gl X "range" := by rfl) (hs : starEach [a, b] X.env = (false, eval a X.env) :: starEach [b] X.env := by rfl) (hs2 : starEach [b] X.env = (false, eval b X.env) :: starEach [] X.env := by rfl)
    (hpl : (backTo pos (starEach [b] X.env)).any (·.1) = false := by rfl) : DI X W tg (.Call (.Name "range" p) [a, b] [] pos) (dRg2 Ta Tb) :=
  wkI (pi_rgU hg hm (pa_cons ha (pa_cons hb pa_nil hs2) hs) hs hpl) fun σ H R ⟨Z, ρ, M, Qd, Rd, G, h⟩ => G.seq (rel1 := Rep X.K) h fun Z1 H1 M1 v x G1 _ rx h1 => G1.seq (rel1 := Rep X.K) h1 fun Z2 H2 M2 w y G2 _ ry h2 => by
    obtain ⟨i, j, rfl, rfl, q⟩ := h2
    cases rx; cases ry
    exact .inr ⟨i, j, rfl, G2.val (rel := fun Z J ds => Walk X.K Z J ds) (walk_rg _ _) q⟩
/-! ### a list, a tuple, a text -/
def dLsI (a : DTE) : DTA := fun ρ M Q R => a ρ M (fun x M1 => ∃ ds, x = .lst ds ∧ Q ds M1) R
def dTpI (a : DTE) : DTA := fun ρ M Q R => a ρ M (fun x M1 => ∃ ds, x = .tup ds ∧ Q ds M1) R
def chD (z : Str) : List D := z.cps.toList.map fun c => D.str ⟨#[c]⟩
def dStI (a : DTE) : DTA := fun ρ M Q R => a ρ M (fun x M1 => ∃ z, x = .str z ∧ Q (chD z) M1) R
theorem walk_l {K : PySem.W.Frag} {Z : Hp} {q : Addr} {xs : List V} {ds : List D} (hz : Z q = some (.lst xs)) (rl : RepL K Z xs ds) : Walk K Z (Itl K q) ds where
  stop := fun H e => ⟨xs, SqL.of (e _ _ hz), by rw [rl.length]; exact Nat.le_refl _⟩
  go := fun i H e hi => ⟨xs, xs[i]'(by rw [rl.length]; exact hi), SqL.of (e _ _ hz), List.getElem?_eq_getElem _⟩
  yld := fun i H v H' d e h hd => by
    obtain ⟨rfl, h⟩ := h
    obtain ⟨u, e1, r⟩ := rl.get hd
    rw [h xs (SqL.of (e _ _ hz))] at e1
    cases e1
    exact .inl ⟨rfl, r⟩
theorem walk_t {K : PySem.W.Frag} {Z : Hp} {q : Addr} {xs : List V} {ds : List D} (hz : Z q = some (.tup xs)) (rl : RepL K Z xs ds) : Walk K Z (Itt K q) ds where
  stop := fun H e => ⟨xs, SqT.of (e _ _ hz), by rw [rl.length]; exact Nat.le_refl _⟩
  go := fun i H e hi => ⟨xs, xs[i]'(by rw [rl.length]; exact hi), SqT.of (e _ _ hz), List.getElem?_eq_getElem _⟩
  yld := fun i H v H' d e h hd => by
    obtain ⟨rfl, h⟩ := h
    obtain ⟨u, e1, r⟩ := rl.get hd
    rw [h xs (SqT.of (e _ _ hz))] at e1
    cases e1
    exact .inl ⟨rfl, r⟩
theorem di_lst (ha : DE X W a Ta) : DI X W tg a (dLsI Ta) := wkI (pi_list ha) fun σ H R ⟨Z, ρ, M, Qd, Rd, G, h⟩ => G.seq (rel1 := Rep X.K) h fun Z1 H1 M1 v x G1 _ rx h1 => by
  obtain ⟨ds, rfl, q⟩ := h1
  cases rx with
  | lst hz rl => exact ⟨_, rfl, ⟨_, SqL.of (G1.at_.zh _ _ hz)⟩, G1.val (rel := fun Z J ds => Walk X.K Z J ds) (walk_l hz rl) q⟩
theorem di_tup (ha : DE X W a Ta) : DI X W tg a (dTpI Ta) := wkI (pi_tup ha) fun σ H R ⟨Z, ρ, M, Qd, Rd, G, h⟩ => G.seq (rel1 := Rep X.K) h fun Z1 H1 M1 v x G1 _ rx h1 => by
  obtain ⟨ds, rfl, q⟩ := h1
  cases rx with
  | tup hz rl => exact ⟨_, rfl, ⟨_, SqT.of (G1.at_.zh _ _ hz)⟩, G1.val (rel := fun Z J ds => Walk X.K Z J ds) (walk_t hz rl) q⟩
theorem di_str (ha : DE X W a Ta) : DI X W tg a (dStI Ta) := wkI (pi_str ha) fun σ H R ⟨Z, ρ, M, Qd, Rd, G, h⟩ => G.seq (rel1 := Rep X.K) h fun Z1 H1 M1 v x G1 _ rx h1 => by
  obtain ⟨z, rfl, q⟩ := h1
  cases rx
  have hlen : (chD z).length = z.cps.size := by simp [chD]
  refine ⟨z, rfl, G1.val (rel := fun Z J ds => Walk X.K Z J ds) ⟨fun H _ => ?_, fun i H _ hi => ?_, fun i H v H' d _ h hd => ?_⟩ q⟩
  · show z.cps.size ≤ _; rw [hlen]; exact Nat.le_refl _
  · show i < z.cps.size; rw [← hlen]; exact hi
  · obtain ⟨rfl, c, hc, rfl⟩ := h
    refine .inl ⟨rfl, ?_⟩
    have : (chD z)[i]? = some (.str ⟨#[c]⟩) := by simp [chD, hc]
    rw [this] at hd
    cases hd
    exact .str _
end
end Dl
namespace Dl
open PySem PySem.Spec PyProof.Rows L2
/-! # zip of lists, tuples, texts in any mix; enumerate -/
/-- what one side of a zip walks -/
inductive Wd where
  | lst (a : Addr) | tup (a : Addr) | txt (x : Str) (k : Tok)
def Wd.it (k : Wd) (it : Addr) (i : Nat) (h : Heap) : Prop := match k with
  | .lst a => h.IsListIter it a i
  | .tup a => h.IsTupleIter it a i
  | .txt x t => h.IsStrIter it (strIterType x) x t i
def Wd.has (k : Wd) (H : Hp) (xs : List V) : Prop := match k with
  | .lst a => H a = some (.lst xs)
  | .tup a => H a = some (.tup xs)
  | .txt x _ => xs = x.cps.toList.map fun c => V.str ⟨#[c]⟩
def Wd.val (k : Wd) : V := match k with
  | .lst a => .ref a
  | .tup a => .ref a
  | .txt x _ => .str x
theorem Wd.obj {k : Wd} {it : Addr} {i : Nat} {h : Heap} (w : k.it it i h) : ∃ o, h.get? it = some o ∧ ∀ v, o.data ≠ .cell v := by
  cases k <;> (obtain ⟨o, e, c, d⟩ := w; exact ⟨o, e, fun v z => by rw [d] at z; cases z⟩)
theorem Wd.keep {k : Wd} {it : Addr} {i : Nat} {h h' : Heap} (w : k.it it i h) (kk : ∀ o, h.get? it = some o → h'.get? it = some o) : k.it it i h' := by
  cases k <;> (obtain ⟨o, e, r⟩ := w; exact ⟨o, kk o e, r⟩)
/-- the walker at a turn, as the library draws from it -/
theorem Wd.draws {X : Cx} {pins : List (Addr × Obj)} {σ : L2.St} {H : Hp} {s : Shared} (hc : X.calm = true) (I : L2.Inv X pins σ H s) {k : Wd} {it : Addr} {i : Nat} {xs : List V} (hn : H it = none) (w : k.it it i s.heap) (hx : k.has H xs) :
    ∃ (fp : List Addr) (P : Nat → Value → Prop) (St : Nat → Heap → Prop), Draws X.prog X.w X.A.in1 it fp xs.length P St ∧ it ∈ fp ∧ (∀ b ∈ fp, b = it ∨ ∃ o, H b = some o) ∧ St i s.heap ∧ (∀ j v, P j v → ∃ x, xs[j]? = some x ∧ RelV x v) ∧ ∀ j h, St j h → k.it it j h := by
  have hh : X.A.in1.handled = none := I.ok.hd hc
  cases k with
  | lst a =>
    obtain ⟨its, rv, pl, hz⟩ := I.list (SqL.of hx)
    have hne : a ≠ it := ne_of_none hx hn
    refine ⟨[it, a], fun i v => its.toArray[i]? = some v, fun i h => h.IsListIter it a i ∧ h.IsList a its.toArray, by have := Draws.list (prog := X.prog) (w := X.w) hh it a hne its.toArray; rw [List.size_toArray, ← rv.length] at this; exact this, by simp, fun b hb => ?_, ⟨w, pl.isList⟩, fun j v e => ?_, fun j h st => st.1⟩
    · rcases List.mem_cons.mp hb with e | e
      · exact .inl e
      · cases List.mem_singleton.mp e; exact .inr ⟨_, hx⟩
    · have e' : its[j]? = some v := by simpa using e
      by_cases hj : j < xs.length
      · obtain ⟨u, hu, ru⟩ := rv.get (List.getElem?_eq_getElem hj)
        rw [e'] at hu; cases hu
        exact ⟨_, List.getElem?_eq_getElem hj, ru⟩
      · rw [List.getElem?_eq_none (by rw [← rv.length]; omega)] at e'; cases e'
  | tup a =>
    obtain ⟨its, rv, pl, hz⟩ := I.tuple (SqT.of hx)
    have hne : a ≠ it := ne_of_none hx hn
    refine ⟨[it, a], fun i v => its.toArray[i]? = some v, fun i h => h.IsTupleIter it a i ∧ h.IsTuple a its.toArray, by have := Draws.tuple (prog := X.prog) (w := X.w) hh it a hne its.toArray; rw [List.size_toArray, ← rv.length] at this; exact this, by simp, fun b hb => ?_, ⟨w, pl⟩, fun j v e => ?_, fun j h st => st.1⟩
    · rcases List.mem_cons.mp hb with e | e
      · exact .inl e
      · cases List.mem_singleton.mp e; exact .inr ⟨_, hx⟩
    · have e' : its[j]? = some v := by simpa using e
      by_cases hj : j < xs.length
      · obtain ⟨u, hu, ru⟩ := rv.get (List.getElem?_eq_getElem hj)
        rw [e'] at hu; cases hu
        exact ⟨_, List.getElem?_eq_getElem hj, ru⟩
      · rw [List.getElem?_eq_none (by rw [← rv.length]; omega)] at e'; cases e'
  | txt x t =>
    have hx' : xs = x.cps.toList.map fun c => V.str ⟨#[c]⟩ := hx
    subst hx'
    refine ⟨[it], fun i v => ∃ c u, x.cps[i]? = some c ∧ v = .str ⟨#[c]⟩ u, fun i h => h.IsStrIter it (strIterType x) x t i, by have := Draws.text (prog := X.prog) (w := X.w) hh it x t; rw [show x.cps.size = (x.cps.toList.map fun c => V.str ⟨#[c]⟩).length by simp] at this; exact this, by simp, fun b hb => .inl (List.mem_singleton.mp hb), w, fun j v ⟨c, u, e, ev⟩ => ?_, fun j h st => st⟩
    subst ev
    exact ⟨.str ⟨#[c]⟩, by simp [e], u, rfl⟩
theorem Wd.same {k : Wd} {H : Hp} {xs ys : List V} (a : k.has H xs) (b : k.has H ys) : xs = ys := by
  cases k with
  | lst q => have e := (show H q = _ from a).symm.trans (show H q = _ from b); cases e; rfl
  | tup q => have e := (show H q = _ from a).symm.trans (show H q = _ from b); cases e; rfl
  | txt x t => exact (show xs = _ from a).trans (show ys = _ from b).symm
def Itw (k1 k2 : Wd) : It :=
  ⟨fun i H => ∃ xs ys, k1.has H xs ∧ k2.has H ys ∧ i < min xs.length ys.length,
    fun i H v H' => ∃ T x y, v = .ref T ∧ H T = none ∧ H' = upd H T (.tup [x, y]) ∧ (∀ xs, k1.has H xs → xs[i]? = some x) ∧ ∀ ys, k2.has H ys → ys[i]? = some y,
    fun i H => ∃ xs ys, k1.has H xs ∧ k2.has H ys ∧ i = min xs.length ys.length⟩
theorem turn_zipW {P : Program} {w : World} {K : PySem.W.Frag} {elts : List Expr} {kk : Nat} {tpos : Pos} (k1 k2 : Wd) {z TI TO i1 i2 : Addr} (D : [z, TI, TO, i1, i2].Nodup) :
    Turn P w K (.Tuple elts kk tpos) (Itw k1 k2) [z, TI, TO, i1, i2] z (fun i h => IsZip h z TI TO .none ∧ IsTupOf2 h TI (.ref i1) (.ref i2) ∧ (∃ x y, IsTupOf2 h TO x y) ∧ k1.it i1 i h ∧ k2.it i2 i h) := by
  have hsep : ∀ {X : Cx} {pins : List (Addr × Obj)} {H : Hp} {fp1 fp2 : List Addr}, (∀ b ∈ [z, TI, TO, i1, i2], FpOk X pins H b) → i1 ∈ fp1 → i2 ∈ fp2 → (∀ b ∈ fp1, b = i1 ∨ ∃ o, H b = some o) → (∀ b ∈ fp2, b = i2 ∨ ∃ o, H b = some o) → ZipSep2 z TI TO i1 i2 fp1 fp2 := by
    intro X pins H fp1 fp2 hf m1 m2 h1 h2
    simp only [List.nodup_cons, List.mem_cons, List.not_mem_nil, or_false, not_or, List.nodup_nil, and_true] at D
    obtain ⟨⟨d1, d2, d3, d4⟩, ⟨d5, d6, d7⟩, ⟨d8, d9⟩, d10⟩ := D
    have nn : ∀ b, (b = z ∨ b = TI ∨ b = TO ∨ b = i1 ∨ b = i2) → H b = none := fun b hb => (hf b (by simpa using hb)).1
    have out : ∀ {b i : Addr} {fp : List Addr}, (∀ b ∈ fp, b = i ∨ ∃ o, H b = some o) → H b = none → b ≠ i → b ∉ fp := fun h hb hne hm => by
      rcases h _ hm with e | ⟨o, e⟩
      · exact hne e
      · rw [hb] at e; cases e
    exact ⟨Ne.symm d1, Ne.symm d2, d5, d6, m1, out h1 (nn z (by simp)) d3, out h1 (nn TO (by simp)) d8, d7, m2, out h2 (nn z (by simp)) d4, out h2 (nn TO (by simp)) d9, out h2 (nn i1 (by simp)) d10.1, out h1 (nn i2 (by simp)) (Ne.symm d10.1)⟩
  exact {
    mem := by simp
    obj := fun i h st c hc => by
      obtain ⟨hz, hTI, ⟨x, y, hTO⟩, h1, h2⟩ := st
      have e' : c = z ∨ c = TI ∨ c = TO ∨ c = i1 ∨ c = i2 := by simpa using hc
      rcases e' with q | q | q | q | q
      · rw [q]; exact ⟨_, hz, fun v q => nomatch q⟩
      · rw [q]; exact ⟨_, hTI, fun v q => nomatch q⟩
      · rw [q]; exact ⟨_, hTO, fun v q => nomatch q⟩
      · rw [q]; exact Wd.obj h1
      · rw [q]; exact Wd.obj h2
    keep := fun i h h' st k => by
      obtain ⟨hz, hTI, ⟨x, y, hTO⟩, h1, h2⟩ := st
      exact ⟨k z (by simp) _ hz, k TI (by simp) _ hTI, ⟨x, y, k TO (by simp) _ hTO⟩, Wd.keep h1 fun o q => k i1 (by simp) o q, Wd.keep h2 fun o q => k i2 (by simp) o q⟩
    item := by
      rintro X rfl rfl rfl hc i pins s σ H E I hf st ⟨xs, ys, hx, hy, hlt⟩
      obtain ⟨hz, hTI, hTO, h1, h2⟩ := st
      obtain ⟨fp1, P1, S1, D1, m1, c1, st1, p1, b1⟩ := Wd.draws hc I (hf i1 (by simp)).1 h1 hx
      obtain ⟨fp2, P2, S2, D2, m2, c2, st2, p2, b2⟩ := Wd.draws hc I (hf i2 (by simp)).1 h2 hy
      have S := hsep hf m1 m2 c1 c2
      refine (GoesN.zip2 (elts := elts) (x1 := kk) (pos := tpos) S D1 D2).goes i s _ E hlt ⟨hz, hTI, hTO, st1, st2⟩ fun v h' tk hY hS hk _ => ?_
      obtain ⟨T, x, y, rfl, hT, hPx, hPy, hTup⟩ := hY
      obtain ⟨x', ex, rx⟩ := p1 _ _ hPx
      obtain ⟨y', ey, ry⟩ := p2 _ _ hPy
      have hTn : H T = none := I.hok.fresh hT
      have I1 : L2.Inv X pins σ (upd H T (.tup [x', y'])) { s with heap := h', toks := tk } :=
        I.turnedNew (t' := tk) (ch := [z, TI, TO, i1, i2]) (fun c o hb q => hk c o (fun q' => hb (by simp at q' ⊢; rcases q' with q' | q' | q' | q' <;> simp [q'])) q) hf hT ⟨by show 2 ≤ sizeLine; decide, [x, y], .cons rx (.cons ry .nil), hTup⟩
      obtain ⟨g1, g2, g3, g4, g5⟩ := hS
      refine ⟨.ref T, _, I1, rfl, ⟨T, x', y', rfl, hTn, rfl, fun l hl => by rw [Wd.same hl hx]; exact ex, fun l hl => by rw [Wd.same hl hy]; exact ey⟩, ⟨g1, g2, g3, b1 _ _ g4, b2 _ _ g5⟩, fun c hcm => ?_⟩
      have hlt' : c < s.heap.objs.size := by
        have e' : c = z ∨ c = TI ∨ c = TO ∨ c = i1 ∨ c = i2 := by simpa using hcm
        rcases e' with q | q | q | q | q
        · rw [q]; exact Heap.lt_size hz
        · rw [q]; exact Heap.lt_size hTI
        · rw [q]; obtain ⟨_, _, e⟩ := hTO; exact Heap.lt_size e
        · rw [q]; obtain ⟨_, e, _⟩ := Wd.obj h1; exact Heap.lt_size e
        · rw [q]; obtain ⟨_, e, _⟩ := Wd.obj h2; exact Heap.lt_size e
      rw [upd_ne (Nat.ne_of_lt (Nat.lt_of_lt_of_le hlt' hT))]
      exact (hf c hcm).1
    done := by
      rintro X rfl rfl rfl hc i pins s σ H E I hf st ⟨xs, ys, hx, hy, hlt⟩
      obtain ⟨hz, hTI, hTO, h1, h2⟩ := st
      obtain ⟨fp1, P1, S1, D1, m1, c1, st1, p1, b1⟩ := Wd.draws hc I (hf i1 (by simp)).1 h1 hx
      obtain ⟨fp2, P2, S2, D2, m2, c2, st2, p2, b2⟩ := Wd.draws hc I (hf i2 (by simp)).1 h2 hy
      have S := hsep hf m1 m2 c1 c2
      refine wpAny_mono ((GoesN.zip2 (elts := elts) (x1 := kk) (pos := tpos) S D1 D2).stops s (fun s1 => L2.Inv X pins σ H s1) E (by rw [← hlt]; exact ⟨hz, hTI, hTO, st1, st2⟩) fun h' tk hk _ => ?_) (fun r s1 q => q) fun _ _ e => e
      exact I.turnedL (t' := tk) (ch := [z, TI, TO, i1, i2]) (fun c o hb q => hk c o (fun q' => hb (by simp at q' ⊢; rcases q' with q' | q' | q' | q' <;> simp [q'])) q) hf
    self := fun A i s Q E st h => wpAny_pyIter_zip st.1 h }
/-- a side's value -/
def WdOf (v : V) (H : Hp) (xs : List V) (k : Tok → Wd) : Prop := (∃ a, v = .ref a ∧ ((H a = some (.lst xs) ∧ k = fun _ => .lst a) ∨ (H a = some (.tup xs) ∧ k = fun _ => .tup a))) ∨ ∃ x, v = .str x ∧ (xs = x.cps.toList.map fun c => V.str ⟨#[c]⟩) ∧ k = fun t => .txt x t
theorem WdOf.begins {X : Cx} {pins : List (Addr × Obj)} {σ : L2.St} {H : Hp} {s : Shared} (I : L2.Inv X pins σ H s) {v : V} {u : Value} {xs : List V} {k : Tok → Wd} (w : WdOf v H xs k) (r : RelV v u) :
    ∃ (t : Tok) (o : Obj) (Hh : Heap → Prop), Begins u o Hh ∧ Hh s.heap ∧ (k t).has H xs ∧ ∀ (it : Addr) (h : Heap), h.get? it = some o → (k t).it it 0 h := by
  rcases w with ⟨a, rfl, ⟨h, rfl⟩ | ⟨h, rfl⟩⟩ | ⟨x, rfl, rfl, rfl⟩
  · cases (show u = Value.ref a from r)
    obtain ⟨its, rv, pl, hz⟩ := I.list (SqL.of h)
    exact ⟨0, _, _, begins_list a its.toArray, pl.isList, h, fun it hp e => ⟨_, e, rfl, rfl⟩⟩
  · cases (show u = Value.ref a from r)
    obtain ⟨its, rv, pl, hz⟩ := I.tuple (SqT.of h)
    exact ⟨0, _, _, begins_tuple a its.toArray, pl, h, fun it hp e => ⟨_, e, rfl, rfl⟩⟩
  · obtain ⟨t, rfl⟩ := (show ∃ t, u = Value.str x t from r)
    exact ⟨t, _, _, begins_text x t, trivial, rfl, fun it hp e => ⟨_, e, rfl, rfl⟩⟩
def iZipW (ta : TA) : TI := fun σ H R => ta σ H fun vs H1 => ∃ v w xs ys k1 k2, vs = [v, w] ∧ WdOf v H1 xs k1 ∧ WdOf w H1 ys k2 ∧ ∀ t1 t2, (k1 t1).has H1 xs → (k2 t2).has H1 ys → R (Itw (k1 t1) (k2 t2)) H1
theorem pi_zipW {X : Cx} {e e2 : Expr} {ta : TA} {p pos tpos : Pos} {elts : List Expr} {kk : Nat} (hg : Gl X "zip") (hm : X.mg "zip" = none) (ha : PA X [e, e2] ta)
    (hs : starEach [e, e2] X.env = (false, eval e X.env) :: starEach [e2] X.env := by rfl) (hpl : (backTo pos (starEach [e2] X.env)).any (·.1) = false := by rfl) :
    PI X (.Tuple elts kk tpos) (.Call (.Name "zip" p) [e, e2] [] pos) (iZipW ta) := by
  refine ⟨fun pins s σ H R I h => ?_⟩
  refine Call_ (ld_blt I hg hm PyProof.Rows.boot_zip (PyProof.Rows.callWith_type1 (thn (ha.run pos pins s σ H _ I h) fun us s1 ⟨vs, H1, I1, r1, q1⟩ => ?_) hs hpl))
  obtain ⟨v, w, xs, ys, k1, k2, rfl, w1, w2, q⟩ := q1
  obtain ⟨u1, u2, rfl, r1, r2⟩ := Vals.two r1
  obtain ⟨t1, o1, H1', B1, g1, hx, n1⟩ := w1.begins I1 r1
  obtain ⟨t2, o2, H2', B2, g2, hy, n2⟩ := w2.begins I1 r2
  refine zip_begins2 B1 B2 g1 g2 fun h' hz hTI hTO h1 h2 hsz hk => wpAny_pyIter_zip hz ?_
  have I2 : L2.Inv X pins σ H1 { s1 with heap := h' } := I1.kept (t' := s1.toks) hk
  refine ⟨s1.heap.objs.size + 4, [s1.heap.objs.size + 4, s1.heap.objs.size + 2, s1.heap.objs.size + 3, s1.heap.objs.size, s1.heap.objs.size + 1], _, _, H1, rfl, I2, turn_zipW (k1 t1) (k2 t2) (by simp), ⟨hz, hTI, ⟨_, _, hTO⟩, n1 _ _ h1, n2 _ _ h2⟩, fun c hcm => ?_, q t1 t2 hx hy⟩
  have hle : s1.heap.objs.size ≤ c := by
    simp only [List.mem_cons, List.not_mem_nil, or_false] at hcm
    rcases hcm with z | z | z | z | z <;> (rw [z]; first | exact Nat.le_add_right _ _ | exact Nat.le_refl _)
  exact I1.fpOk hle (I1.hok.fresh hle)
/-- the pairs -/
def zipD : List D → List D → List D
  | x :: xs, y :: ys => .tup [x, y] :: zipD xs ys
  | _, _ => []
theorem zipD_length : ∀ (xs ys : List D), (zipD xs ys).length = min xs.length ys.length
  | [], _ => by simp [zipD]
  | _ :: _, [] => by simp [zipD]
  | x :: xs, y :: ys => by simp [zipD, zipD_length xs ys]
theorem zipD_get : ∀ {xs ys : List D} {i : Nat} {d : D}, (zipD xs ys)[i]? = some d → ∃ x y, xs[i]? = some x ∧ ys[i]? = some y ∧ d = .tup [x, y]
  | [], _, i, d, h => by simp [zipD] at h
  | _ :: _, [], i, d, h => by simp [zipD] at h
  | x :: xs, y :: ys, 0, d, h => by simp [zipD] at h; exact ⟨x, y, rfl, rfl, h.symm⟩
  | x :: xs, y :: ys, i + 1, d, h => by
    obtain ⟨a, b, h1, h2, h3⟩ := zipD_get (i := i) (by simpa [zipD] using h)
    exact ⟨a, b, by simpa using h1, by simpa using h2, h3⟩
/-- what an iterable value gives -/
def D.items : D → Option (List D)
  | .lst ds => some ds
  | .tup ds => some ds
  | .str z => some (chD z)
  | _ => none
def dZip (a b : DTE) : DTA := fun ρ M Q R => a ρ M (fun x M1 => b ρ M1 (fun y M2 => ∃ xs ys, x.items = some xs ∧ y.items = some ys ∧ Q (zipD xs ys) M2) R) R
theorem repL_ch {K : PySem.W.Frag} {Z : Hp} : ∀ cs : List Nat, RepL K Z (cs.map fun c => V.str ⟨#[c]⟩) (cs.map fun c => D.str ⟨#[c]⟩)
  | [] => .nil
  | c :: cs => .cons (.str _) (repL_ch cs)
theorem items_rep {K : PySem.W.Frag} {Z : Hp} {v : V} {x : D} {xs : List D} (r : Rep K Z v x) (h : x.items = some xs) : ∃ ys k, WdOf v Z ys k ∧ RepL K Z ys xs := by
  cases r <;> cases h
  · exact ⟨_, _, .inr ⟨_, rfl, rfl, rfl⟩, repL_ch _⟩
  · exact ⟨_, _, .inl ⟨_, rfl, .inr ⟨‹_›, rfl⟩⟩, ‹_›⟩
  · exact ⟨_, _, .inl ⟨_, rfl, .inl ⟨‹_›, rfl⟩⟩, ‹_›⟩
theorem WdOf.mono {v : V} {H H' : Hp} {xs : List V} {k : Tok → Wd} (e : Ex H H') (w : WdOf v H xs k) : WdOf v H' xs k := by
  rcases w with ⟨a, rfl, ⟨h, rfl⟩ | ⟨h, rfl⟩⟩ | ⟨x, rfl, rfl, rfl⟩
  · exact .inl ⟨a, rfl, .inl ⟨e _ _ h, rfl⟩⟩
  · exact .inl ⟨a, rfl, .inr ⟨e _ _ h, rfl⟩⟩
  · exact .inr ⟨x, rfl, rfl, rfl⟩
theorem WdOf.hasI {v : V} {H : Hp} {xs : List V} {k : Tok → Wd} (w : WdOf v H xs k) (t : Tok) : (k t).has H xs := by
  rcases w with ⟨a, rfl, ⟨h, rfl⟩ | ⟨h, rfl⟩⟩ | ⟨x, rfl, rfl, rfl⟩
  · exact h
  · exact h
  · rfl
theorem walk_zip {K : PySem.W.Frag} {Z : Hp} {v w : V} {xs ys : List V} {ds es : List D} {k1 k2 : Tok → Wd} (w1 : WdOf v Z xs k1) (w2 : WdOf w Z ys k2) (r1 : RepL K Z xs ds) (r2 : RepL K Z ys es) (t1 t2 : Tok) : Walk K Z (Itw (k1 t1) (k2 t2)) (zipD ds es) where
  stop := fun H e => ⟨xs, ys, (w1.mono e).hasI t1, (w2.mono e).hasI t2, by rw [zipD_length, r1.length, r2.length]⟩
  go := fun i H e hi => ⟨xs, ys, (w1.mono e).hasI t1, (w2.mono e).hasI t2, by rw [zipD_length] at hi; rw [r1.length, r2.length]; exact hi⟩
  yld := fun i H u H' d e h hd => by
    obtain ⟨T, x, y, rfl, hT, rfl, hx, hy⟩ := h
    obtain ⟨a, b, e1, e2, rfl⟩ := zipD_get hd
    obtain ⟨x', ex, rx⟩ := r1.get e1
    obtain ⟨y', ey, ry⟩ := r2.get e2
    rw [hx xs ((w1.mono e).hasI t1)] at ex
    rw [hy ys ((w2.mono e).hasI t2)] at ey
    cases ex; cases ey
    have hZ : Z T = none := e.free hT
    exact .inr ⟨T, _, hT, rfl, .tup upd_same (.cons (rx.mono (Ex.new hZ)) (.cons (ry.mono (Ex.new hZ)) .nil))⟩
section
variable {X : Cx} {W : WX} {tg a b e : Expr} {es elts : List Expr} {p pos tpos : Pos} {Ta Tb : DTE} {kk : Nat}
theorem di_zip (hm : X.mg "zip" = none) (ha : DE X W a Ta) (hb : DE X W b Tb) (hg : Gl X "zip" := by rfl) (hs : starEach [a, b] X.env = (false, eval a X.env) :: starEach [b] X.env := by rfl) (hs2 : starEach [b] X.env = (false, eval b X.env) :: starEach [] X.env := by rfl)
    (hpl : (backTo pos (starEach [b] X.env)).any (·.1) = false := by rfl) : DI X W (.Tuple elts kk tpos) (.Call (.Name "zip" p) [a, b] [] pos) (dZip Ta Tb) :=
  wkI (pi_zipW hg hm (pa_cons ha (pa_cons hb pa_nil hs2) hs) hs hpl) fun σ H R ⟨Z, ρ, M, Qd, Rd, G, h⟩ => G.seq (rel1 := Rep X.K) h fun Z1 H1 M1 v x G1 _ rx h1 => G1.seq (rel1 := Rep X.K) h1 fun Z2 H2 M2 w y G2 e2 ry h2 => by
    obtain ⟨xs, ys, h3, h4, q⟩ := h2
    obtain ⟨vs, k1, w1, r1⟩ := items_rep (rx.mono e2) h3
    obtain ⟨ws, k2, w2, r2⟩ := items_rep ry h4
    exact ⟨_, _, _, _, k1, k2, rfl, w1.mono G2.at_.zh, w2.mono G2.at_.zh, fun t1 t2 _ _ => G2.val (rel := fun Z J ds => Walk X.K Z J ds) (walk_zip w1 w2 r1 r2 t1 t2) q⟩
/-- enumerate of a list -/
def enD : Nat → List D → List D
  | _, [] => []
  | n, x :: xs => .tup [.int (n : Nat), x] :: enD (n + 1) xs
theorem enD_length : ∀ (n : Nat) (xs : List D), (enD n xs).length = xs.length
  | _, [] => rfl
  | n, x :: xs => congrArg Nat.succ (enD_length (n + 1) xs)
theorem enD_get : ∀ {n : Nat} {xs : List D} {i : Nat} {d : D}, (enD n xs)[i]? = some d → ∃ x, xs[i]? = some x ∧ d = .tup [.int ((n + i : Nat)), x]
  | n, [], i, d, h => by simp [enD] at h
  | n, x :: xs, 0, d, h => by simp [enD] at h; exact ⟨x, rfl, h.symm⟩
  | n, x :: xs, i + 1, d, h => by
    obtain ⟨a, h1, h2⟩ := enD_get (n := n + 1) (i := i) (by simpa [enD] using h)
    exact ⟨a, by simpa using h1, by rw [h2, show n + 1 + i = n + (i + 1) by omega]⟩
def dEnL (a : DTE) : DTA := fun ρ M Q R => a ρ M (fun x M1 => ∃ ds, x = .lst ds ∧ Q (enD 0 ds) M1) R
theorem di_enumL (hm : X.mg "enumerate" = none) (ha : DE X W a Ta) (hg : Gl X "enumerate" := by rfl) (hs : starEach [a] X.env = (false, eval a X.env) :: starEach [] X.env := by rfl) :
    DI X W (.Tuple elts kk tpos) (.Call (.Name "enumerate" p) [a] [] pos) (dEnL Ta) :=
  wkI (pi_enum hg hm (pa_cons ha pa_nil hs) hs) fun σ H R ⟨Z, ρ, M, Qd, Rd, G, h⟩ => G.seq (rel1 := Rep X.K) h fun Z1 H1 M1 v x G1 _ rx h1 => by
    obtain ⟨ds, rfl, q⟩ := h1
    cases rx with
    | lst hz rl =>
      rename_i a0 xs
      refine ⟨_, xs, rfl, SqL.of (G1.at_.zh _ _ hz), G1.val (rel := fun Z J ds => Walk X.K Z J ds) ⟨fun H e => ⟨xs, SqL.of (e _ _ hz), by rw [enD_length, rl.length]; exact Nat.le_refl _⟩, fun i H e hi => ?_, fun i H v H' d e h hd => ?_⟩ q⟩
      · rw [enD_length, ← rl.length] at hi
        exact ⟨xs, xs[i], SqL.of (e _ _ hz), List.getElem?_eq_getElem _⟩
      · obtain ⟨T, x, rfl, hT, rfl, hx⟩ := h
        obtain ⟨b, e1, rfl⟩ := enD_get hd
        obtain ⟨u, eu, ru⟩ := rl.get e1
        rw [hx xs (SqL.of (e _ _ hz))] at eu
        cases eu
        have hZ : Z1 T = none := e.free hT
        rw [Nat.zero_add]
        exact .inr ⟨T, _, hT, rfl, .tup upd_same (.cons (.int _) (.cons (ru.mono (Ex.new hZ)) .nil))⟩
end
end Dl
namespace Dl
open PySem PySem.Spec PyProof.Rows L2
/-! # list(x), x a range of any size or a zip; sorted(d), d a dict with tuples as keys -/
section
variable {prog : Program} {w : World} {A : Around} {E : Value → Shared → Prop} {s : Shared} {T : String} {r : Addr} {own dep : List Addr} {n : Nat} {P : Nat → Value → Prop}
/-- what list(x) asks of the thing at r (own: what turns with it; dep: what it leans on) -/
structure Feed (prog : Program) (w : World) (A : Around) (T : String) (r : Addr) (own dep : List Addr) (n : Nat) (P : Nat → Value → Prop) (Good : Heap → Prop) : Prop where
  kind : ∀ s : Shared, Good s.heap → s.TypeIs (.ref r) T
  mem : r ∈ own ++ dep
  low : ∀ h, Good h → ∀ b ∈ own ++ dep, b < h.objs.size
  stay : ∀ h h' : Heap, Good h → (∀ b ∈ own ++ dep, ∀ o, h.get? b = some o → h'.get? b = some o) → Good h'
  noL : (Value.type T == Value.type "list") = false
  noT : (Value.type T == Value.type "tuple") = false
  hint : ∀ (E : Value → Shared → Prop) (s : Shared) (Q : Bool → Shared → Prop), Good s.heap → (∀ b tk, Q b { s with toks := tk }) → wpAny (model prog w) A (Builtin.List.listLengthHint (.ref r)) Q E s
  start : ∀ s : Shared, Good s.heap → ∃ (I : Addr) (h1 : Heap) (fp wr : List Addr) (St : Nat → Heap → Prop), (∀ (E : Value → Shared → Prop) (Q : Value → Shared → Prop), Q (.ref I) { s with heap := h1 } → wpAny (model prog w) A (pyIter (.ref r)) Q E s) ∧
    (∀ b o, s.heap.get? b = some o → h1.get? b = some o) ∧ Walks prog w A I fp wr n P St ∧ St 0 h1 ∧ (∀ b ∈ fp, b ∈ own ++ dep ∨ s.heap.objs.size ≤ b) ∧ (∀ b ∈ wr, b ∈ own ∨ s.heap.objs.size ≤ b) ∧ Good h1
/-- the list at S as it is filled -/
abbrev lstAt (h : Heap) (S : Addr) (acc : Array Value) (c : Nat) : Prop := h.get? S = some { cls := .type "list", dict := none, data := .seq acc c, slots := #[] }
variable {Good : Heap → Prop}
theorem Feed.fill {R : Result → Shared → Prop} (F : Feed prog w A.in1 T r own dep n P Good) (g : Good s.heap) (hn : n ≤ sizeLine) {S : Addr} (hS : S ∉ own ++ dep) (res : Value) {c0 : Nat} (e0 : lstAt s.heap S #[] c0)
    (hR : ∀ h' tk acc c, (∀ b o, b ≠ S → b ∉ own → s.heap.get? b = some o → h'.get? b = some o) → lstAt h' S acc c → ItemsOf P acc n → R (.ok (.ret res)) { s with heap := h', toks := tk }) :
    wpAny (model prog w) A.in1 (Builtin.List.listExtendWith (.ref S) (.ref r) res)
      (fun fin s2 => match fin with | .done f => R (.ok f) s2 | .again k => k.quiet = true ∧ codeAny (model prog w) A k R s2) (fun e s2 => R (.error e) s2) s := by
  obtain ⟨I, h1, fp, wr, St, go, old, W, st, ffp, fwr, g1⟩ := F.start s g
  have lS : S < s.heap.objs.size := Heap.lt_size e0
  have nfp : S ∉ fp := fun z => (ffp S z).elim hS fun q => absurd lS (Nat.not_lt.mpr q)
  have run : ∀ (h : Heap) (c tk : Nat), St 0 h → (∀ b o, b ≠ S → s.heap.get? b = some o → h.get? b = some o) → lstAt h S #[] c →
      codeAny (model prog w) A (.builtin "list.extend.loop" ⟨[.ref S, .ref I, res], []⟩) R { s with heap := h, toks := tk } := fun h c tk st0 old0 e1 => by
    refine codeAny_extend_loopS W.toS hn S nfp res n 0 _ #[] c rfl (Nat.zero_le n) st0 e1 (ItemsOf.nil _) fun s2 acc c2 mv e2 its => ?_
    rw [Moved.eq_with mv]
    refine hR s2.heap s2.toks acc c2 (fun b o b1 b2 e => mv.heap b o (fun z => ?_) (old0 b o b1 e)) e2 its
    rcases List.mem_cons.mp z with q | q
    · exact b1 q
    · exact (fwr b q).elim b2 fun q2 => absurd (Heap.lt_size e) (Nat.not_lt.mpr q2)
  have neq : Builtin.List.listSameRef (.ref S) (.ref r) = false := by
    have : S ≠ r := fun z => hS (by rw [z]; exact F.mem)
    simp [Builtin.List.listSameRef, this]
  unfold Builtin.List.listExtendWith
  refine wpAny_bind (wpAny_typeOf (T := T) (F.kind s g) ?_)
  simp only [neq, F.noL, F.noT, Bool.or_false, Bool.false_eq_true, if_false]
  refine wpAny_bind (go _ _ (wpAny_bind (wpAny_holding (F.hint _ _ _ g1 fun b tk => ?_))))
  have e1 := old _ _ e0
  have oldS : ∀ b o, b ≠ S → s.heap.get? b = some o → h1.get? b = some o := fun b o _ e => old b o e
  refine wpAny_ite_split (fun _ => ?_) fun _ => wpAny_pure ⟨plainId_quiet PySem.F.plain_extend_loop _, run _ c0 _ st oldS e1⟩
  refine wpAny_bind (wpAny_rule (wpAny_bind ?_))
  show wpAny _ _ (updateSeq S (fun a => a.push .none) >>= fun _ => updateSeq S fun a => a.pop) _ _ _
  refine wpAny_bind (wpAny_updateSeq e1 rfl ?_)
  have e2 := Heap.get?_update_self (Obj.mapSeq fun a => a.push Value.none) e1 rfl
  refine wpAny_updateSeq (hz := by seq_fits) e2 rfl (wpAny_pure ⟨plainId_quiet PySem.F.plain_extend_loop _, run _ _ _ (W.frame 0 _ _ st fun b hb o e => ?_) (fun b o hb e => ?_) (Heap.get?_update_self (Obj.mapSeq fun a => a.pop) e2 rfl)⟩)
  · have hb2 : S ≠ b := fun z => nfp (by rw [z]; exact hb)
    rw [Heap.get?_update_other _ _ hb2, Heap.get?_update_other _ _ hb2]; exact e
  · rw [Heap.get?_update_other _ _ (Ne.symm hb), Heap.get?_update_other _ _ (Ne.symm hb)]; exact old b o e
theorem Feed.init {R : Result → Shared → Prop} (F : Feed prog w A.in1 T r own dep n P Good) (g : Good s.heap) (hn : n ≤ sizeLine) {S : Addr} (hS : S ∉ own ++ dep) (e0 : lstAt s.heap S #[] 0)
    (hR : ∀ h' tk acc c, (∀ b o, b ≠ S → b ∉ own → s.heap.get? b = some o → h'.get? b = some o) → lstAt h' S acc c → ItemsOf P acc n → R (.ok (.ret .none)) { s with heap := h', toks := tk }) :
    wpAny (model prog w) A.in1 (Builtin.«list.__init__» ⟨[.ref S, .ref r], []⟩)
      (fun fin s2 => match fin with | .done f => R (.ok f) s2 | .again k => k.quiet = true ∧ codeAny (model prog w) A k R s2) (fun e s2 => R (.error e) s2) s := by
  show wpAny _ _ (do let was ← Builtin.List.listItems (.ref S); Builtin.List.listUpdate (.ref S) (fun _ => #[]); letGo was.toList.reverse; Builtin.List.listExtendWith (.ref S) (.ref r) .none) _ _ s
  unfold Builtin.List.listItems
  refine wpAny_bind (wpAny_bind (wpAny_seqItems e0 rfl (wpAny_pure ?_)))
  show wpAny _ _ (updateSeq S (fun _ => #[]) >>= fun _ => letGo (#[] : Array Value).toList.reverse >>= fun _ => Builtin.List.listExtendWith (.ref S) (.ref r) Value.none) _ _ s
  have oth : ∀ b o, b ≠ S → s.heap.get? b = some o → (s.heap.update S (Obj.mapSeq fun _ => (#[] : Array Value))).get? b = some o := fun b o hb e => by rw [Heap.get?_update_other _ _ (Ne.symm hb)]; exact e
  refine wpAny_bind (wpAny_updateSeq e0 rfl (wpAny_bind (wpAny_letGo ?_)))
  refine F.fill (F.stay _ _ g fun b hb o e => oth b o (fun z => hS (by rw [← z]; exact hb)) e) hn hS .none (Heap.get?_update_self (Obj.mapSeq fun _ => (#[] : Array Value)) e0 rfl) fun h' tk acc c old e1 its => ?_
  exact hR h' tk acc c (fun b o b1 b2 e => old b o b1 b2 (oth b o b1 e)) e1 its
/-- list(x) -/
theorem Feed.list {Q : Value → Shared → Prop} (F : ∀ A', A'.handled = A.handled → Feed prog w A' T r own dep n P Good) (g : Good s.heap) (hn : n ≤ sizeLine)
    (hQ : ∀ h' tk acc c, (∀ b o, b ∉ own → s.heap.get? b = some o → h'.get? b = some o) → lstAt h' s.heap.objs.size acc c → ItemsOf P acc n → Q (.ref s.heap.objs.size) { s with heap := h', toks := tk }) :
    wpAny (model prog w) A (call (.type "list") [.ref r]) Q E s := by
  refine callType_codes (Q₁ := fun ob s1 => ob = .ref s.heap.objs.size ∧ s1 = { s with heap := s.heap.push { cls := .type "list", data := .seq #[] } }) PySem.F.called_list (PySem.F.typeCall_list_1 _) PySem.F.entry_list_init
    (code_list_new _ ⟨rfl, rfl⟩) fun ob s1 ⟨q1, q2⟩ => ?_
  subst q1 q2
  have e0 : lstAt (s.heap.push { cls := .type "list", data := .seq #[] }) s.heap.objs.size #[] 0 := Heap.get?_push_size _ rfl
  have F1 := F A.in1.in1 rfl
  refine ⟨⟨_, e0, rfl⟩, PySem.F.args_list_init_2 _ _, Feed.init (A := A.in1) F1 (F1.stay _ _ g fun b _ o e => Heap.get?_push_of_some _ e) hn (fun z => Nat.lt_irrefl _ (F1.low _ g _ z)) e0 fun h' tk acc c old e1 its => ?_⟩
  exact ⟨rfl, hQ h' tk acc c (fun b o hb e => old b o (Nat.ne_of_lt (Heap.lt_size e)) hb (Heap.get?_push_of_some _ e)) e1 its⟩
end
end Dl
namespace Dl
open PySem PySem.Spec PyProof.Rows L2
/-! ### list(range(..)) -/
theorem feed_range {prog : Program} {w : World} {A : Around} {lo hi : Int} {t u v : Tok} (r : Addr) (n : Nat) (hh : A.handled = none) (hn : (hi - lo).toNat = n) (hl : n ≤ 2 ^ 24) :
    Feed prog w A "range" r [] [r] n (fun i x => ∃ t, x = .int (lo + (i : Int) * 1) t) (fun h => IsRange h r lo hi 1 t u v) where
  kind := fun s g => ⟨_, g, rfl⟩
  mem := by simp
  low := fun h g b hb => by cases (List.mem_singleton.mp hb); exact Heap.lt_size g
  stay := fun h h' g k => k r (by simp) _ g
  noL := by decide
  noT := by decide
  hint := fun E s Q g q => wpAny_hint_range (n := n) g (by rw [rg_size, hn]) hl (q _ _)
  start := fun s g => by
    have e1 : lo + ((0 : Nat) : Int) * 1 = lo := by simp
    have e2 : (n : Int) - ((0 : Nat) : Int) = Builtin.Range.rangeSize lo hi 1 := by rw [rg_size, hn]; simp
    cases hs : Builtin.Range.small lo hi 1 with
    | true =>
      refine ⟨s.heap.objs.size, _, _, _, _, fun E Q q => wpAny_pyIter_range g hs q, fun b o e => Heap.get?_push_of_some _ e, Walks.range hh _ lo 1 n, ?_, fun b hb => .inr (by cases (List.mem_singleton.mp hb); exact Nat.le_refl _), fun b hb => .inr (by cases (List.mem_singleton.mp hb); exact Nat.le_refl _), Heap.get?_push_of_some _ g⟩
      rw [e1, e2]; exact Heap.get?_push_size _ rfl
    | false =>
      refine ⟨s.heap.objs.size, _, _, _, _, fun E Q q => wpAny_pyIter_longrange g hs q, fun b o e => Heap.get?_push_of_some _ e, Walks.longrange hh _ lo 1 n, ?_, fun b hb => .inr (by cases (List.mem_singleton.mp hb); exact Nat.le_refl _), fun b hb => .inr (by cases (List.mem_singleton.mp hb); exact Nat.le_refl _), Heap.get?_push_of_some _ g⟩
      rw [e1, e2]; exact Heap.get?_push_size _ rfl
def tLstRgU (te : L2.St → Hp → (Int → Int → Hp → Prop) → Prop) : TE := fun σ H Q => te σ H fun a b H1 => (b - a).toNat ≤ 100000 ∧ ∀ q, H1 q = none → Q (.ref q) (upd H1 q (.lst (rgV a b)))
theorem pe_listRgU {X : Cx} {e : Expr} {te : L2.St → Hp → (Int → Int → Hp → Prop) → Prop} {p pos : Pos} (hc : X.calm = true) (hg : Gl X "list") (hm : X.mg "list" = none) (he : PRg X e te) (na : starEach [e] X.env = (false, eval e X.env) :: starEach [] X.env) : PE X (.Call (.Name "list" p) [e] [] pos) (tLstRgU te) := by
  refine ⟨fun pins s σ H Q I h => Call_ (ld_blt I hg hm boot_list (PyProof.Rows.callWith_type1 (args_cons (thn (he pins s σ H _ I h) fun x s1 ⟨r, a, b, t, u, v, H1, ex, hr, I1, ok, q⟩ => args_nil ?_) na) na))⟩
  subst ex
  refine Feed.list (fun A' hA => feed_range r (b - a).toNat (by rw [hA]; exact I1.ok.hd hc) rfl (by omega)) hr (sz ok) fun h' tk acc c old e1 its => ?_
  refine ⟨.ref s1.heap.objs.size, upd H1 s1.heap.objs.size (.lst (rgV a b)), I1.laid (fun b o e => old b o (by simp) e) (Nat.le_refl _) (show ObjOk X.prog X.w _ _ _ (.lst (rgV a b)) from ⟨by rw [rgV_length]; exact sz ok, acc.toList, c, vals_rg its, by rw [Array.toArray_toList]; exact e1⟩), rfl, q _ (I1.hok.fresh (Nat.le_refl _))⟩
theorem rgV_rep {K : PySem.W.Frag} {Z : Hp} (a b : Int) : RepL K Z (rgV a b) (rgD a (b - a).toNat) := by
  unfold rgV rgD
  generalize (b - a).toNat = n
  suffices h : ∀ l : List Nat, RepL K Z (l.map fun i => V.int (a + (i : Nat))) (l.map fun i => D.int (a + (i : Nat))) from h _
  intro l
  induction l with
  | nil => exact .nil
  | cons x l ih => exact .cons (.int _) ih
def dLsRg1 (a : DTE) : DTE := fun ρ M Q R => a ρ M (fun x M1 => ∃ n, x = .int n ∧ n.toNat ≤ 100000 ∧ Q (.lst (rgD 0 n.toNat)) M1) R
def dLsRg2 (a b : DTE) : DTE := fun ρ M Q R => a ρ M (fun x M1 => b ρ M1 (fun y M2 => ∃ i j, x = .int i ∧ y = .int j ∧ (j - i).toNat ≤ 100000 ∧ Q (.lst (rgD i (j - i).toNat)) M2) R) R
section
variable {X : Cx} {W : WX} {a b e k v : Expr} {es : List Expr} {p pos p2 p3 : Pos} {Ta Tb : DTE}
theorem de_lsRg1 (hc : X.calm = true) (hm : X.mg "list" = none) (hm2 : X.mg "range" = none) (ha : DE X W a Ta) (hg : Gl X "list" := by rfl) (hg2 : Gl X "range" := by rfl) (na : starEach [a] X.env = (false, eval a X.env) :: starEach [] X.env := by rfl)
    (nb : starEach [.Call (.Name "range" p) [a] [] p2] X.env = (false, eval (.Call (.Name "range" p) [a] [] p2) X.env) :: starEach [] X.env := by rfl) : DE X W (.Call (.Name "list" p3) [.Call (.Name "range" p) [a] [] p2] [] pos) (dLsRg1 Ta) :=
  wkE (pe_listRgU hc hg hm (prg_1 hg2 hm2 ha na) nb) fun σ H Q ⟨Z, ρ, M, Qd, Rd, G, h⟩ => G.seq (rel1 := Rep X.K) h fun Z1 H1 M1 v x G1 _ rx h1 => by
    obtain ⟨n, rfl, hl, q⟩ := h1
    cases rx
    have e0 : (n - 0).toNat = n.toNat := by simp
    refine ⟨n, rfl, by rw [e0]; exact hl, fun t ht => G1.new (o := .lst _) ht (.lst upd_same (rgV_rep 0 n)) ?_⟩
    rw [e0]; exact q
theorem de_lsRg2 (hc : X.calm = true) (hm : X.mg "list" = none) (hm2 : X.mg "range" = none) (ha : DE X W a Ta) (hb : DE X W b Tb) (hg : Gl X "list" := by rfl) (hg2 : Gl X "range" := by rfl) (na : starEach [a, b] X.env = (false, eval a X.env) :: starEach [b] X.env := by rfl)
    (na2 : starEach [b] X.env = (false, eval b X.env) :: starEach [] X.env := by rfl) (hp : (backTo p2 (starEach [b] X.env)).any (·.1) = false := by rfl)
    (nb : starEach [.Call (.Name "range" p) [a, b] [] p2] X.env = (false, eval (.Call (.Name "range" p) [a, b] [] p2) X.env) :: starEach [] X.env := by rfl) : DE X W (.Call (.Name "list" p3) [.Call (.Name "range" p) [a, b] [] p2] [] pos) (dLsRg2 Ta Tb) :=
  wkE (pe_listRgU hc hg hm (prg_2 hg2 hm2 ha hb na na2 hp) nb) fun σ H Q ⟨Z, ρ, M, Qd, Rd, G, h⟩ => G.seq (rel1 := Rep X.K) h fun Z1 H1 M1 v x G1 _ rx h1 => G1.seq (rel1 := Rep X.K) h1 fun Z2 H2 M2 w y G2 _ ry h2 => by
    obtain ⟨i, j, rfl, rfl, hl, q⟩ := h2
    cases rx; cases ry
    exact ⟨i, j, rfl, rfl, hl, fun t ht => G2.new (o := .lst _) ht (.lst upd_same (rgV_rep i j)) q⟩
/-! ### dicts: empty, with one tuple as key -/
def dNewK : DTE := fun _ M Q _ => ∀ p, p ∉ keys M → Q (.obj p) ((p, .dK []) :: M)
def dNewT : DTE := fun _ M Q _ => ∀ p, p ∉ keys M → Q (.obj p) ((p, .dT []) :: M)
theorem de_newK : DE X W (.Dict [] [] pos) dNewK := wkE pe_dnewK fun σ H Q ⟨Z, ρ, M, Qd, Rd, G, h⟩ => fun p hp => G.newM (o := .dK []) (m := .dK []) hp ⟨[], upd_same, .nil⟩ (.obj p) (h p)
theorem de_newT : DE X W (.Dict [] [] pos) dNewT := wkE pe_dnewT fun σ H Q ⟨Z, ρ, M, Qd, Rd, G, h⟩ => fun p hp => G.newM (o := .dT []) (m := .dT []) hp ⟨[], upd_same, .nil⟩ (.obj p) (h p)
/-- {k: v}, k a tuple -/
def tOneT (tk tv : TE) : TE := fun σ H Q => ∀ p, H p = none → tk σ (upd H p (.dT [])) fun x H1 => tv σ H1 fun y H2 => ∃ b ks, x = .ref b ∧ H2 b = some (.tup (ks.map kV)) ∧ H2 p = some (.dT []) ∧ Q (.ref p) (upd H2 p (.dT [(ks, y)]))
theorem pe_oneT {tk tv : TE} (hu : X.A.units < cLine) (hk : PE X k tk) (hv : PE X v tv) : PE X (.Dict [some k] [v] pos) (tOneT tk tv) := by
  refine ⟨fun pins s σ H Q I h => ?_⟩
  have hn := I.hok.fresh (Nat.le_refl s.heap.objs.size)
  have I1 := I.laid (a := s.heap.objs.size) (o := .dT []) (h' := s.heap.push { cls := .type "dict", data := .dict #[] }) (t' := s.toks) (fun _ _ q => Heap.get?_push_of_some _ q) (Nat.le_refl _) (dt_empty s.heap I.big)
  rw [arm_eval_Dict, zip_pairTrees [some k] [v] X.env pos rfl rfl, dictDisplay_pairs _ (by intro z; cases z) (Nat.lt_of_lt_of_le (show 1 < 2 by decide) (by decide))]
  refine wpAny_bind (wpAny_standAt (wpAny_bind (wpAny_subDictH (knd := tupleKind (mixKind X.prog X.w)) (show X.A.units < cLine from hu) (show (1 : Nat) ≤ 15 by decide) ?_)))
  refine pairTrees_cons_walk (thn (hk.run pins _ σ _ _ I1 (h _ hn)) fun u s1 ⟨x, H1, J1, r1, q1⟩ => thn (hv.run pins s1 σ H1 _ J1 q1) fun w s2 ⟨y, H2, J2, r2, b, ks, ex, hb, hp, q2⟩ => pairTrees_nil_walk ?_)
  subst ex
  obtain rfl : u = Value.ref b := r1
  obtain ⟨z, hd, xs, rel, dd⟩ := dt_rd J2.hok (.inl hp)
  cases rel
  refine ⟨[(ks, b, w)], ⟨rfl, rfl, key_of J2.hok hb, trivial⟩, dd, fun h' tk dd' hs => wpAny_pure ?_⟩
  obtain ⟨o, es, ep, ho, h2, h3, h4, _, h5⟩ := dd'
  refine ⟨.ref s.heap.objs.size, _, d_write (t' := tk) J2 (by rw [hp]; exact True.intro) hs ⟨o, ho⟩ ?_, rfl, q2⟩
  refine ⟨by show 1 ≤ sizeLine; decide, hd, [(ks, b, w)], .cons ⟨rfl, ?_, r2⟩ .nil, o, es, ep, ho, h2, h3, h4, h5⟩
  rw [upd_ne (ne_of hb hp (fun z => nomatch z))]
  exact hb
def dOneT (a b : DTE) : DTE := fun ρ M Q R => ∀ p, p ∉ keys M → a ρ ((p, .dT []) :: M) (fun x M1 => b ρ M1 (fun y M2 => ∃ ks, x.keyT = some ks ∧ mget M2 p = some (.dT []) ∧ Q (.obj p) (mset M2 p (.dT [(ks, y)]))) R) R
theorem de_oneT (hu : X.A.units < cLine) (hk : DE X W k Ta) (hv : DE X W v Tb) : DE X W (.Dict [some k] [v] pos) (dOneT Ta Tb) :=
  wkE (pe_oneT hu hk hv) fun σ H Q ⟨Z, ρ, M, Qd, Rd, G, h⟩ => fun p hp => by
    obtain ⟨g, a, nk⟩ := G.at_.newM (o := .dT []) (m := .dT []) hp ⟨[], upd_same, .nil⟩
    refine (G.step g a).seq (rel1 := Rep X.K) (h p nk) fun Z1 H1 M1 u x G1 _ rx h1 => G1.seq (rel1 := Rep X.K) h1 fun Z2 H2 M2 w y G2 e2 ry h2 => ?_
    obtain ⟨ks, hk, e, q⟩ := h2
    obtain ⟨kv, hp2, al⟩ := G2.at_.get e
    cases al
    obtain ⟨b, eb, hb⟩ := keyT_rep (rx.mono e2) hk
    exact ⟨b, ks, eb, G2.at_.zh _ _ hb, hp2, G2.write (m' := .dT [(ks, y)]) e ⟨_, upd_same, .cons ⟨rfl, ry⟩ .nil⟩ (.obj p) q⟩
/-! ### sorted(d), tuples as keys -/
def rSortK (K : PySem.W.Frag) : List V → Hp → VK → Prop := fun vs H Q => ∃ (a : Addr) (kvs : List (List Key × V)), vs = [.ref a] ∧ H a = some (.dT kvs) ∧
  ∀ ks : List Addr, (ks.length = kvs.length ∧ ∀ (i : Nat) (k : List Key) (v : V), kvs[i]? = some (k, v) → ∃ q, ks[i]? = some q ∧ H q = some (.tup (k.map kV))) → ∃ ps : List (V × D), ps.map (·.1) = ks.map V.ref ∧ (∀ p ∈ ps, Dp K H p.1 p.2.py) ∧ PySem.W.AllAlike (ps.map fun p => p.2.py) ∧ PySem.W.Sortable (ps.map fun p => p.2.py) ∧
  (∀ p ∈ ps, p.2.py.depth ≤ 64) ∧ ∀ q, H q = none → Q (.ref q) (upd H q (.lst ((ps.mergeSort (PySem.W.dataLe false fun p => p.2.py)).map (·.1))))
end
end Dl
namespace Dl
open PySem PySem.Spec PyProof.Rows L2
/-! ### sorted(d), d a dict with tuples as keys; sorted(set(x)), x a list of tuples of ints -/
/-- a dict's keys as list(d), sorted(d) take them: nothing is known of them but the entries -/
theorem src_raw {prog : Program} {w : World} {d : Addr} {es : Array DictEntry} {ep : Nat} (lo : (d == sysModules) = false) : PySem.W.KdlSrc prog w "dict" d d es.size (fun i v => ∃ en, es[i]? = some en ∧ v = en.key) (fun h => DT.Raw h d es ep) where
  type := fun s g => DT.Raw.typeIs g
  there := fun h g => ⟨DT.Raw.lt g, DT.Raw.lt g⟩
  keep := fun h h' g k => DT.Raw.at' g fun o e => k d (.inl rfl) o e
  notList := by decide
  notTuple := by decide
  hint := fun A E s Q g q => PySem.W.kdl_hint_dict (DT.Raw.typeIs g) q
  iter := fun A s hh g => by
    obtain ⟨o, ho, hc, hd⟩ := id g
    have W : Walks prog w A s.heap.objs.size [s.heap.objs.size, d] [s.heap.objs.size] es.size (fun i v => ∃ en, es[i]? = some en ∧ v = en.key) (fun i h => h.IsKeyIter s.heap.objs.size d i es.size ep ∧ DT.Raw h d es ep) := {
      sub := fun b hb => by cases (List.mem_singleton.mp hb); simp
      frame := fun i h h' st k => ⟨Heap.IsKeyIter.at st.1 fun o e => k _ (by simp) o e, DT.Raw.at' st.2 fun o e => k d (by simp) o e⟩
      item := fun i s2 Q E hi st q => by
        obtain ⟨o2, ho2, hc2, hd2⟩ := id st.2
        refine next_key_item st.1 ho2 hd2 rfl (Array.getElem?_eq_getElem hi) fun h' it' sb => ?_
        have hne : d ≠ s.heap.objs.size := Nat.ne_of_lt (DT.Raw.lt g)
        exact q _ h' s2.toks ⟨_, Array.getElem?_eq_getElem hi, rfl⟩ ⟨it', DT.Raw.at' st.2 fun o e => (sb.2 d hne).trans e⟩ fun b o hb e => (sb.2 b (fun z => hb (by simp [z]))).trans e
      done := fun s2 Q E st q => by
        obtain ⟨o2, ho2, hc2, hd2⟩ := id st.2
        exact next_key_end hh st.1 ho2 hd2 rfl (Nat.le_refl _) fun h' eb => q h' s2.toks fun b o hb e => eb b o (fun z => hb (by simp [z])) e
      self := fun i s2 Q E st q => wpAny_pyIter_keyiter st.1 q }
    exact ⟨_, _, fun E Q q => iter_keys lo ho hc hd q, W, ⟨⟨_, Heap.get?_push_size _ rfl, rfl, rfl⟩, DT.Raw.push g _⟩⟩
theorem cr_sortK {X : Cx} (hc : X.calm = true) (hu : X.A.units + 70 < cLine) : CallR X (.builtin "sorted") (rSortK X.K) := by
  intro pins s σ H vs us Q I r h
  obtain ⟨a, kvs, rfl, hd, q⟩ := h
  obtain ⟨u, rfl, ru⟩ := Vals.one r
  cases ru
  obtain ⟨z, lo, xs, pr, o, es, ep, ho, hx, hdt, he, _⟩ := I.hok a _ hd
  have hl : es.size = kvs.length := (size_of_entries he).trans (Paired.length pr).symm
  have ent : ∀ (i : Nat) (k : List Key) (v : V), kvs[i]? = some (k, v) → ∃ (en : DictEntry) (b : Addr), es[i]? = some en ∧ en.key = .ref b ∧ H b = some (.tup (k.map kV)) := fun i k v e => by
    obtain ⟨b, hb, e1, e2, _⟩ := L2.paired_get pr e
    have qq := entry_at he i
    rw [hb] at qq
    exact ⟨_, b.2.1, qq, rfl, e2⟩
  refine Calls.call_function_entry PyProof.Rows.kind_sorted PyProof.Rows.plain_sorted PyProof.Rows.entry_sorted (PyProof.Rows.args_sorted1 _) ?_
  unfold Builtin.«sorted»
  refine wpAny_bind (m := checkCount "sorted" 1 1 _) (wpAny_pure (wpAny_bind (PySem.W.kdu_collect (A := X.A.in1) (src_raw (es := es) (ep := ep) lo) (I.ok.hd hc) ⟨o, ho, hx, hdt⟩ (by rw [hl]; exact z) fun h' tk acc kk its => ?_)))
  -- the keys' places
  have hks : ∀ (i : Nat), i < kvs.length → ∃ b, acc.toList[i]? = some (.ref b) ∧ ∃ k v, kvs[i]? = some (k, v) ∧ H b = some (.tup (k.map kV)) := fun i hi => by
    obtain ⟨en, b, e1, e2, e3⟩ := ent i kvs[i].1 kvs[i].2 (List.getElem?_eq_getElem hi)
    have hi2 : i < acc.size := by rw [its.1, hl]; exact hi
    obtain ⟨en', e4, e5⟩ := its.2 i acc[i] (Array.getElem?_eq_getElem hi2)
    rw [e1] at e4; cases e4
    exact ⟨b, by rw [Array.getElem?_toList, Array.getElem?_eq_getElem hi2, e5, e2], _, _, List.getElem?_eq_getElem hi, e3⟩
  have hal : acc.toList.length = kvs.length := by rw [Array.length_toList, its.1, hl]
  have refs : ∀ l : List Value, (∀ v ∈ l, ∃ b, v = Value.ref b) → ∃ ks : List Addr, l = ks.map Value.ref := by
    intro l
    induction l with
    | nil => exact fun _ => ⟨[], rfl⟩
    | cons v l ih =>
      intro hv
      obtain ⟨b, rfl⟩ := hv v (List.mem_cons_self ..)
      obtain ⟨ks, rfl⟩ := ih fun x hx => hv x (List.mem_cons_of_mem _ hx)
      exact ⟨b :: ks, rfl⟩
  obtain ⟨ks, hk⟩ := refs acc.toList fun v hv => by
    obtain ⟨i, hi, e⟩ := List.mem_iff_getElem.mp hv
    obtain ⟨b, eb, _⟩ := hks i (by rw [← hal]; exact hi)
    rw [List.getElem?_eq_getElem hi] at eb
    exact ⟨b, by rw [← e]; exact Option.some.inj eb⟩
  have hkl : ks.length = kvs.length := by rw [← hal, hk, List.length_map]
  obtain ⟨ps, p1, p2, p3, p4, p5, q⟩ := q ks ⟨hkl, fun i k v e => by
    have hi : i < kvs.length := (List.getElem?_eq_some_iff.mp e).1
    obtain ⟨b, eb, k', v', e1, e2⟩ := hks i hi
    rw [e] at e1; cases e1
    rw [hk, List.getElem?_map] at eb
    cases e3 : ks[i]? with
    | none => rw [e3] at eb; cases eb
    | some c => rw [e3] at eb; cases eb; exact ⟨_, rfl, e2⟩⟩
  have I1 : L2.Inv X pins σ H { s with heap := h', toks := tk } := I.kept kk
  have rv : Vals (ps.map (·.1)) acc.toList := by
    rw [p1, hk]
    clear p1 hk hkl
    induction ks with
    | nil => exact .nil
    | cons b ks ih => exact .cons rfl ih
  have hlen : acc.toList.length ≤ sizeLine := by rw [hal]; exact z
  refine wpAny_bind (wpAny_newList ?_ hlen)
  have eL : (h'.push (seqObj "list" acc.toList.toArray 0)).get? h'.objs.size = some (seqObj "list" acc.toList.toArray 0) := Heap.get?_push_size _ rfl
  have er : PySem.W.EachIs (fun u (p : V × D) => ∃ as, Reads (PySem.W.sortingHeap (h'.push (seqObj "list" acc.toList.toArray 0)) h'.objs.size acc.toList) u p.2.py as) acc.toList ps :=
    (each_reads I1 rv p2).mono fun _ _ ⟨as, rr⟩ => ⟨as, PyProof.Rows.Reads.keeps (fun b o e => PySem.W.sortingHeap_old (Nat.ne_of_lt (Heap.lt_size e)) (Heap.get?_push_of_some _ e)) rr⟩
  show wpAny _ _ _ _ _ { s with heap := h'.push (seqObj "list" acc.toList.toArray 0), toks := tk }
  refine wpAny_bind (wpAny_holding (wpAny_call_entry PyProof.Rows.slot_list_sort ⟨_, eL, rfl⟩ PyProof.Rows.entry_list_sort
    (PySem.W.list_sort_vals (s := { s with heap := h'.push (seqObj "list" acc.toList.toArray 0), toks := tk }) eL
      (PySem.W.SortsAt.data (ds := ps.map fun (p : V × D) => p.2.py) (PySem.W.each_map (R := fun v d => ∃ as, Reads (PySem.W.sortingHeap (h'.push (seqObj "list" acc.toList.toArray 0)) h'.objs.size acc.toList) v d as) (fun (p : V × D) => p.2.py) er) p3 p4 fun dd hdd => ?_) hlen ⟨_, rfl, ?_⟩)
    (PyProof.Rows.args_list_sort _)))
  · obtain ⟨p, hp, rfl⟩ := List.mem_map.mp hdd
    have := p5 p hp
    show X.A.units + 1 + 1 + _ < cLine
    omega
  have out := PySem.W.sortVals_data false (each_of (K := X.K) rv) er p3
  obtain ⟨c, hc'⟩ := sortedHeap_at (vs := acc.toList) (out := (PySem.W.sortVals (PySem.W.dataKind (PySem.W.sortingHeap (h'.push (seqObj "list" acc.toList.toArray 0)) h'.objs.size acc.toList) (ps.map fun (p : V × D) => p.2.py)) false acc.toList acc.toList).toArray) eL
  have hz : ((ps.mergeSort (PySem.W.dataLe false fun p => p.2.py)).map (·.1)).length ≤ sizeLine := by
    rw [List.length_map, List.length_mergeSort, ← List.length_map (f := (·.1)), p1, List.length_map, hkl]; exact z
  refine wpAny_pure ⟨_, rfl, .ref h'.objs.size, _, I1.laid (t' := tk) (fun b u e => ?_) (Nat.le_refl _)
    (show ObjOk X.prog X.w _ _ _ (.lst ((ps.mergeSort (PySem.W.dataLe false fun p => p.2.py)).map (·.1))) from ⟨hz, _, c, each_back out, hc'⟩), rfl, q _ (I1.hok.fresh (Nat.le_refl _))⟩
  have hb : b < h'.objs.size := Heap.lt_size e
  rw [sortedHeap_old (Nat.ne_of_lt hb) (by rw [size_push']; exact Nat.lt_succ_of_lt hb)]
  exact Heap.get?_push_of_some _ e
def kD : Key → D
  | .inl i => .int i
  | .inr x => .str x
def bSortK : BF := fun xs M Q => match xs with
  | [.obj p] => ∃ kvs, mget M p = some (.dT kvs) ∧ SortOk (kvs.map fun kv => D.tup (kv.1.map kD)) ∧ Q (.lst (sortD (kvs.map fun kv => D.tup (kv.1.map kD)))) M
  | _ => False
theorem kD_rep {K : PySem.W.Frag} {Z : Hp} : ∀ k : List Key, RepL K Z (k.map kV) (k.map kD)
  | [] => .nil
  | .inl i :: k => .cons (.int i) (kD_rep k)
  | .inr x :: k => .cons (.str x) (kD_rep k)
theorem kD_dp {K : PySem.W.Frag} {H : Hp} {b : Addr} {k : List Key} (h : H b = some (.tup (k.map kV))) : Dp K H (.ref b) (D.tup (k.map kD)).py := by
  simp only [D.py]
  refine .tup (SqT.of h) ?_
  clear h
  induction k with
  | nil => exact .nil
  | cons x k ih => cases x <;> (simp only [List.map_cons, kV, kD, D.pyL, D.py]; first | exact .cons (.int _) ih | exact .cons (.str _) ih)
/-- tuples that stand in H, told from now on as what never changes -/
theorem At.more {K : PySem.W.Frag} {σ : L2.St} {ρ : Dl.Env} {Z H : Hp} {M : Mem} (a : At K Z H σ ρ M) {b : Addr} {xs : List V} (h : H b = some (.tup xs)) : ∃ Z', Gr Z H M Z' H M ∧ At K Z' H σ ρ M ∧ Z' b = some (.tup xs) := by
  cases hz : Z b with
  | some o =>
    have e := a.zh b o hz
    rw [h] at e
    exact ⟨Z, Gr.refl _ _ _, a, by rw [hz, ← Option.some.inj e]⟩
  | none =>
    have hk : b ∉ keys M := fun z => by
      obtain ⟨x, hx, e⟩ := List.mem_map.mp z
      have m := (a.mem x.1 x.2 hx).2
      rw [show x.1 = b from e] at m
      revert m
      cases x.2 with
      | lst ds => rintro ⟨_, m, _⟩; rw [h] at m; cases m
      | can => rintro ⟨_, _, m, _⟩; rw [h] at m; cases m
      | dK kvs => rintro ⟨_, m, _⟩; rw [h] at m; cases m
      | dT kvs => rintro ⟨_, m, _⟩; rw [h] at m; cases m
      | ins c fs => rintro ⟨_, _, m, _⟩; rw [h] at m; cases m
      | tab q => rintro ⟨_, _, m, _⟩; rw [h] at m; cases m
    have g : Gr Z H M (upd Z b (.tup xs)) H M := ⟨Ex.new hz, fun c u e => by
      by_cases hb : c = b
      · rw [hb]; exact .inr (.inr (.inr (.inl ⟨xs, h⟩)))
      · rw [upd_ne hb] at e; exact .inl e, fun c o _ e _ => e, fun p hp => .inl hp⟩
    exact ⟨_, g, a.later g.zz (a.toMemAt.freeze hz hk h), upd_same⟩
theorem At.moreL {K : PySem.W.Frag} {σ : L2.St} {ρ : Dl.Env} {H : Hp} {M : Mem} : ∀ (kvs : List (List Key × D)) (ks : List Addr) {Z : Hp}, At K Z H σ ρ M → ks.length = kvs.length → (∀ (i : Nat) (k : List Key) (v : D), kvs[i]? = some (k, v) → ∃ q, ks[i]? = some q ∧ H q = some (.tup (k.map kV))) →
    ∃ Z', Gr Z H M Z' H M ∧ At K Z' H σ ρ M ∧ RepL K Z' (ks.map V.ref) (kvs.map fun kv => D.tup (kv.1.map kD))
  | [], [], Z, a, _, _ => ⟨Z, Gr.refl _ _ _, a, .nil⟩
  | (k, v) :: kvs, q :: ks, Z, a, hl, h => by
    obtain ⟨q', e1, e2⟩ := h 0 k v rfl
    cases e1
    obtain ⟨Z1, g1, a1, z1⟩ := a.more e2
    obtain ⟨Z2, g2, a2, r2⟩ := At.moreL kvs ks a1 (Nat.succ.inj hl) fun i k v e => h (i + 1) k v e
    exact ⟨Z2, g1.trans g2, a2, .cons (.tup (g2.zz _ _ z1) (kD_rep k)) r2⟩
  | [], _ :: _, _, _, hl, _ => by cases hl
  | _ :: _, [], _, _, hl, _ => by cases hl
theorem cd_sortK {K : PySem.W.Frag} : CallD K (rSortK K) bSortK := by
  intro W σ ρ Z H M Qd Rd Q vs xs G rs h
  unfold bSortK at h
  split at h <;> first | exact h.elim | skip
  rename_i p
  obtain ⟨v, rfl, r⟩ := rs.one
  cases r
  obtain ⟨kvs, e, ⟨s1, s2, s3⟩, q⟩ := h
  obtain ⟨kv, hp, al⟩ := G.at_.get e
  refine ⟨p, kv, rfl, hp, fun ks ⟨hks1, hks2⟩ => ?_⟩
  have lk : ∀ {l : List (List Key × V)} {m : List (List Key × D)}, All2 (KvR K Z) l m → ∀ (i : Nat) (k : List Key) (v : D), m[i]? = some (k, v) → ∃ w, l[i]? = some (k, w) := by
    intro l m al
    induction al with
    | nil => intro i k v h; simp at h
    | @cons x y l m hh t ih =>
      intro i k v h
      cases i with
      | zero =>
        have : y = (k, v) := by simpa using h
        subst this
        obtain ⟨x1, x2⟩ := x
        exact ⟨x2, by have : x1 = k := hh.1; subst this; rfl⟩
      | succ i => obtain ⟨w, e⟩ := ih i k v (by simpa using h); exact ⟨w, by simpa using e⟩
  obtain ⟨Z1, g1, a1, r1⟩ := At.moreL (K := K) kvs ks G.at_ (by rw [hks1, al.length]) fun i k v h => by
    obtain ⟨w, e⟩ := lk al i k v h
    exact hks2 i k w e
  have G1 := G.step g1 a1
  obtain ⟨ps, h1, h2, h3⟩ := repL_pairs r1
  have ep : (kvs.map fun kv => D.tup (kv.1.map kD)).map D.py = ps.map fun p => p.2.py := by rw [← h2, List.map_map]; rfl
  rw [ep] at s2 s3
  have ok : ∀ p ∈ ps, p.2.ok := fun p hp => s1 _ (by rw [← h2]; exact List.mem_map.mpr ⟨p, hp, rfl⟩)
  refine ⟨ps, h1, fun p hp => (h3 p hp).dp G1.at_.zh (SeqAt.canLay_of_shaped (ok p hp)), s2, s3, fun p hp => ?_, fun t ht => ?_⟩
  · have z := ok p hp
    unfold D.ok SeqAt.shaped at z
    simpa using (by simpa using z : _ ∧ _).2
  · refine G1.new (o := .lst _) ht (.lst upd_same ?_) q
    rw [← h2, ← sortD_pairs]
    exact (pairs_repL fun p hp => h3 p (List.mem_mergeSort.mp hp)).mono (Ex.new (G1.at_.zh.free ht))
end Dl
namespace Dl
open PySem PySem.Spec PyProof.Rows L2
/-! ### sorted(set(x)), x a list of fewer than 64 tuples of ints -/
def tupI (k : List Int) : D := .tup (k.map D.int)
def dSetSort (a : DTE) : DTE := fun ρ M Q R => a ρ M (fun x M1 => ∃ (ks : List (List Int)) (d : Nat) (B : Int), x = .lst (ks.map tupI) ∧ ks.length < 64 ∧ 1 ≤ d ∧ (∀ k ∈ ks, k.length = d ∧ TS.Bd B k) ∧
  ∀ L : List (List Int), L.Nodup → (∀ k, k ∈ L ↔ k ∈ ks) → L.Pairwise (fun p q => TS.code B p ≤ TS.code B q) → Q (.lst (L.map tupI)) M1) R
theorem tupI_inv {K : PySem.W.Frag} {Z : Hp} : ∀ {ks : List (List Int)} {vs : List V}, RepL K Z vs (ks.map tupI) → ∃ ps : List (Addr × List Int), vs = ps.map (fun p => V.ref p.1) ∧ ps.map (·.2) = ks ∧ ∀ p ∈ ps, Z p.1 = some (.tup (p.2.map V.int))
  | [], _, .nil => ⟨[], rfl, rfl, fun _ h => by cases h⟩
  | k :: ks, _, .cons r t => by
    obtain ⟨ps, h1, h2, h3⟩ := tupI_inv t
    unfold tupI at r
    cases r with
    | tup hz rl =>
      rename_i a xs
      rw [rl.ints] at hz
      refine ⟨(a, k) :: ps, by rw [List.map_cons, h1], by rw [List.map_cons, h2], fun p hp => ?_⟩
      rcases List.mem_cons.mp hp with e | e
      · rw [e]; exact hz
      · exact h3 p e
section
variable {X : Cx} {W : WX} {a b e : Expr} {es : List Expr} {p pos p2 p3 : Pos} {Ta Tb : DTE}
theorem de_setSort (hc : X.calm = true) (hu : X.A.units + 64 < cLine) (hm : X.mg "sorted" = none) (hm2 : X.mg "set" = none) (ha : DE X W a Ta) (hg : Gl X "sorted" := by rfl) (hg2 : Gl X "set" := by rfl) (na : starEach [a] X.env = (false, eval a X.env) :: starEach [] X.env := by rfl)
    (nb : starEach [.Call (.Name "set" p) [a] [] p2] X.env = (false, eval (.Call (.Name "set" p) [a] [] p2) X.env) :: starEach [] X.env := by rfl) : DE X W (.Call (.Name "sorted" p3) [.Call (.Name "set" p) [a] [] p2] [] pos) (dSetSort Ta) :=
  wkE (pe_callB (cr_sortedT hc) hg hm (by decide +kernel) (pa_cons (pe_callTy (cr_setOfT hc hu) hg2 hm2 (by decide +kernel) (pa_cons ha pa_nil na) (by decide) (by decide) na rfl) pa_nil nb) (by decide) (by decide) nb rfl) fun σ H Q ⟨Z, ρ, M, Qd, Rd, G, h⟩ =>
    G.seq (rel1 := Rep X.K) h fun Z1 H1 M1 v x G1 _ rx h1 => by
      obtain ⟨ks, d, B, rfl, h64, hd, hB, q⟩ := h1
      cases rx with
      | lst hz rl =>
        rename_i l vs
        obtain ⟨ps, e1, e2, e3⟩ := tupI_inv rl
        have hks : ∀ p ∈ ps, p.2 ∈ ks := fun p hp => by rw [← e2]; exact List.mem_map.mpr ⟨p, hp, rfl⟩
        refine ⟨l, ps, rfl, by rw [← e1]; exact SqL.of (G1.at_.zh _ _ hz), fun p hp => SqT.of (G1.at_.zh _ _ (e3 p hp)), by rw [← List.length_map (f := (·.2)), e2]; exact h64, fun a L ha hL1 hL2 => ?_⟩
        have hZa : Z1 a = none := G1.at_.zh.free ha
        have hka : a ∉ keys M1 := fun z => by
          obtain ⟨x, hx, ex⟩ := List.mem_map.mp z
          obtain ⟨u, eu⟩ := (G1.at_.mem x.1 x.2 hx).2.some
          rw [show x.1 = a from ex, ha] at eu; cases eu
        have G2 := G1.step ((Gr.refl Z1 H1 M1).loose (o := SetTO X.prog X.w a L) ha) ⟨G1.at_.toMemAt.loose hZa hka (fun P z => by rw [ha] at z; cases z), G1.at_.sl, G1.at_.ln⟩
        refine ⟨a, L, d, B, rfl, upd_same, fun p hp => SqT.of (G2.at_.zh _ _ (e3 p (hL1 p hp))), hd, fun p hp => hB _ (hks p (hL1 p hp)), fun L' t pm nd few pw ht => ?_⟩
        refine G2.new (o := .lst _) ht (.lst upd_same ?_) (q (L'.map (·.2)) nd (fun k => ⟨fun hk => ?_, fun hk => ?_⟩) (List.pairwise_map.mpr pw))
        · have mono : ∀ p ∈ L', (upd Z1 t (.lst (L'.map fun q => V.ref q.1))) p.1 = some (.tup (p.2.map V.int)) := fun p hp => (Ex.new (G2.at_.zh.free ht)) _ _ (e3 p (hL1 p (pm.mem_iff.mp hp)))
          revert mono
          generalize upd Z1 t (HO.lst (L'.map fun q => V.ref q.1)) = ZZ
          clear nd few pw pm
          induction L' with
          | nil => intro _; exact .nil
          | cons p L' ih => intro mono; exact .cons (.tup (mono p (List.mem_cons_self ..)) (repL_ints p.2)) (ih fun q hq => mono q (List.mem_cons_of_mem _ hq))
        · obtain ⟨p, hp, rfl⟩ := List.mem_map.mp hk
          exact hks p (hL1 p (pm.mem_iff.mp hp))
        · rw [← e2] at hk
          obtain ⟨p, hp, rfl⟩ := List.mem_map.mp hk
          obtain ⟨r, hr, er⟩ := List.mem_map.mp (hL2 p hp)
          exact List.mem_map.mpr ⟨r, pm.mem_iff.mpr hr, er⟩
end
end Dl
namespace Dl
open PySem PySem.Spec PyProof.Rows L2
/-! # What a law's derivations lean on -/
/-- a def of the module's top that keeps a contract -/
structure Has (P : Program) (w : World) (K : PySem.W.Frag) (mg : Str → Option Value) (base : Heap) (x : Str) (k : Nat) (ps : List Str) (S : DSp) : Prop where
  ex : ∃ fd, FnD P w K mg base k (He.ga K x) fd ps S ∧ L2.Binds K fd ps []
  g : mg x = some (.ref (He.ga K x))
  kp : PySem.W.keepIn K (.ref (He.ga K x)) = true
theorem binds_plain {K : PySem.W.Frag} {x qual : Str} {params : Arguments} {body : List Stmt} {scope : Scope} {f : Addr} {fd : FuncData} {ps : List Str} (F : FunD K x qual params body scope [] [] f fd) (b : L2.Binds K fd ps []) : L2.Binds K fd ps [] := b
theorem takes0 {X : Cx} : L2N.Takes X W0 := fun u s' ⟨a, B, sI, pins, σ, H, cls, d, e, I, nb, up, sky, na, os, ag, w⟩ => False.elim w
section
variable {X : Cx} {W : WX} {j k : Nat} {ps : List Str} {S : DSp} {x : Str} {p pos : Pos} {e : Expr} {es : List Expr} {TA : DTA}
theorem de_callH (h : Has X.prog X.w X.K X.mg X.base x k ps S) (hr : Room j X.A) (hk : k ≤ j) (tk : L2N.Takes X W) (ha : DA X W (e :: es) TA)
    (hg : Gl X x := by rfl) (hdb : (x == ("__debug__" : Str)) = false := by decide) (he : starEach (e :: es) X.env = (false, eval e X.env) :: starEach es X.env := by rfl) (hpl : (backTo pos (starEach es X.env)).any (·.1) = false := by rfl) :
    DE X W (.Call (.Name x p) (e :: es) [] pos) (dCall S TA) := by
  obtain ⟨fd, F, b⟩ := h.ex
  exact de_call F (hr.mono hk) h.g h.kp b tk ha hg hdb he hpl
theorem de_call0H (h : Has X.prog X.w X.K X.mg X.base x k ps S) (hr : Room j X.A) (hk : k ≤ j) (tk : L2N.Takes X W) (hg : Gl X x := by rfl) (hdb : (x == ("__debug__" : Str)) = false := by decide) : DE X W (.Call (.Name x p) [] [] pos) (dCall S dNil) := by
  obtain ⟨fd, F, b⟩ := h.ex
  exact de_call0 F (hr.mono hk) h.g h.kp b tk hg hdb
theorem ds_raiseH {m : Str} {i : Nat} {p1 p2 p3 : Pos} (hc : X.calm = true) (tk : L2N.Takes X W) (g : X.mg x = some (.ref (He.ga X.K x))) (c : (He.Fa.exc x).ok X.K = true) (hg : Gl X x := by rfl) (hd : (x == ("__debug__" : Str)) = false := by decide) :
    DS X W (.Raise (some (.Call (.Name x p1) [.Constant (.str m) i p2] [] p3)) none pos) (dRaise x) := by
  obtain ⟨q1, q2, q3, q4⟩ := He.exc_ok c
  exact ds_raise hc tk rfl q1 PySem.F.excBase_ValueError g q2 (raises_own q3 q4) hg hd
end
/-- a def's promise, from its datum and its derivation -/
theorem has_of {P : Program} {w : World} {K : PySem.W.Frag} {mg : Str → Option Value} {base : Heap} {x qual : Str} {params : Arguments} {body : List Stmt} {scope : Scope} {N ps : List Str} {k : Nat} {S : DSp} {T : DTS}
    (F : ∃ fd, FunD K x qual params body scope [] [] (He.ga K x) fd) (Sc : FnScope N ps scope) (g : mg x = some (.ref (He.ga K x))) (bn : ∀ {fd}, FunD K x qual params body scope [] [] (He.ga K x) fd → L2.Binds K fd ps []) (hl : ∀ ds M Q R, S ds M Q R → ds.length = ps.length)
    (hb : ∀ (f : Addr) (cdv : Value) (A : Around) (outer : List PySem.Env) (s : Shared) (H : Hp) (E : XK), Room k (A.deeper (envOfC qual scope s.heap.objs.size f cdv)) → DSs (cxOf (L2N.CX P w) P w K mg base N qual scope f cdv A outer s H E) (WD E) body T)
    (hp : Keeps S N.length T) : Has P w K mg base x (k + 1) ps S := by
  obtain ⟨fd, F⟩ := F
  exact ⟨⟨fd, fnD F Sc hl (fun cdv A outer s H E hr => hb _ cdv A outer s H E hr) hp, bn F⟩, g, F.kp⟩
end Dl
namespace Dl
open PySem PySem.Spec PyProof.Rows L2
/-! # list(zip(x, y)), x and y lists; what is left -/
section
variable {prog : Program} {w : World} {A : Around} {E : Value → Shared → Prop} {s : Shared} {z TI TO i1 i2 l1 l2 : Addr} {xs ys : Array Value}
/-- the zip in the middle of its way: nothing given yet, or the last pair is still out -/
def ZMid (h : Heap) (z TI TO i1 i2 S N : Addr) (i : Nat) : Prop := (i = 0 ∧ IsZip h z TI TO .none ∧ ∃ a b, IsPair h TO a b) ∨ ∃ T f oT, IsZipHeld h z TI TO T f ∧ h.get? T = some oT ∧ N ≤ T
/-- the pairs made so far -/
def ZOut (h : Heap) (xs ys : Array Value) (N : Addr) (as : List Addr) : Prop := as.Nodup ∧ ∀ (j : Nat) (a : Addr), as[j]? = some a → N ≤ a ∧ ∃ x y, xs[j]? = some x ∧ ys[j]? = some y ∧ IsPair h a x y
theorem ZOut.keep {h h' : Heap} {N : Addr} {as : List Addr} (o : ZOut h xs ys N as) (k : ∀ b u, N ≤ b → h.get? b = some u → h'.get? b = some u) : ZOut h' xs ys N as := ⟨o.1, fun j a e => by
  obtain ⟨h1, x, y, h2, h3, h4⟩ := o.2 j a e
  exact ⟨h1, x, y, h2, h3, k a _ h1 h4⟩⟩
theorem zip_loop {R : Result → Shared → Prop} {S N : Addr} (hh : A.handled = none) (D : ZipApart z TI TO i1 i2 l1 l2) (hn : min xs.size ys.size ≤ sizeLine) (res : Value) (hS : S ≠ z ∧ S ≠ TI ∧ S ≠ TO ∧ S ≠ i1 ∧ S ≠ i2 ∧ S ≠ l1 ∧ S ≠ l2)
    (hN : ∀ b ∈ [S, z, TI, TO, i1, i2, l1, l2], b < N) (h0 : Heap)
    (hR : ∀ h tk acc c as, (∀ b o, b ∉ [S, z, TO, i1, i2] → h0.get? b = some o → h.get? b = some o) → lstAt h S acc c → acc.toList = as.map Value.ref → as.length = min xs.size ys.size → ZOut h xs ys N as → R (.ok (.ret res)) { s with heap := h, toks := tk }) :
    ∀ (k i : Nat) (h : Heap) (tk c : Nat) (acc : Array Value) (as : List Addr), min xs.size ys.size - i = k → i ≤ min xs.size ys.size → ZMid h z TI TO i1 i2 S N i → IsPair h TI (.ref i1) (.ref i2) → h.IsListIter i1 l1 i → h.IsListIter i2 l2 i → h.IsList l1 xs → h.IsList l2 ys →
      (∀ b o, b ∉ [S, z, TO, i1, i2] → h0.get? b = some o → h.get? b = some o) → lstAt h S acc c → acc.toList = as.map Value.ref → as.length = i → ZOut h xs ys N as → N ≤ h.objs.size →
      codeAny (model prog w) A (.builtin "list.extend.loop" ⟨[.ref S, .ref z, res], []⟩) R { s with heap := h, toks := tk } := by
  have lt : ∀ b, b ∈ [S, z, TI, TO, i1, i2, l1, l2] → ∀ a, N ≤ a → a ≠ b := fun b hb a ha q => Nat.lt_irrefl _ (Nat.lt_of_lt_of_le (hN b hb) (by rw [← q]; exact ha))
  intro k
  induction k with
  | zero =>
    intro i h tk c acc as hk hi mid pTI p1 p2 q1 q2 old eS ea la zo big
    refine codeAny_builtin PySem.F.entry_extend_loop ?_
    rw [Around.under_plainId PySem.F.plain_extend_loop _]
    show wpAny _ A.in1 (pyNext (.ref z) >>= _) _ _ _
    have hend : xs[i]? = none ∨ ys[i]? = none := by
      by_cases hx : xs.size ≤ i
      · exact .inl (Array.getElem?_eq_none hx)
      · exact .inr (Array.getElem?_eq_none (by omega))
    have fin : ∀ h' : Heap, (∀ c o, c ≠ z → c ≠ TO → c ≠ i1 → c ≠ i2 → h.get? c = some o → h'.get? c = some o) → R (.ok (.ret res)) { s with heap := h', toks := tk } := fun h' kk =>
      hR h' tk acc c as (fun b o hb e => kk b o (fun q => hb (by simp [q])) (fun q => hb (by simp [q])) (fun q => hb (by simp [q])) (fun q => hb (by simp [q])) (old b o hb e)) (kk S _ hS.1 hS.2.2.1 hS.2.2.2.1 hS.2.2.2.2.1 eS) ea (by omega)
        (zo.keep fun b u hb e => kk b u (lt z (by simp) b hb) (lt TO (by simp) b hb) (lt i1 (by simp) b hb) (lt i2 (by simp) b hb) e)
    rcases mid with ⟨_, mz, a, b, mo⟩ | ⟨T, f, oT, mz, mT, _⟩
    · exact wpAny_bind (wpAny_pyNext_zip_end (s := { s with heap := h, toks := tk }) hh D mz pTI mo p1 p2 q1 q2 hend fun h' kk => wpAny_pure (fin h' kk))
    · exact wpAny_bind (wpAny_pyNext_zip_end_held (s := { s with heap := h, toks := tk }) hh D mz mT pTI p1 p2 q1 q2 hend fun h' kk => wpAny_pure (fin h' fun c o c1 _ c3 c4 e => kk c o c1 c3 c4 e))
  | succ k ih =>
    intro i h tk c acc as hk hi mid pTI p1 p2 q1 q2 old eS ea la zo big
    have hlt : i < min xs.size ys.size := by omega
    have hx := Array.getElem?_eq_getElem (show i < xs.size by omega)
    have hy := Array.getElem?_eq_getElem (show i < ys.size by omega)
    have hsz : acc.size = i := by rw [← Array.length_toList, ea, List.length_map, la]
    refine codeAny_builtin PySem.F.entry_extend_loop ?_
    rw [Around.under_plainId PySem.F.plain_extend_loop _]
    show wpAny _ A.in1 (pyNext (.ref z) >>= _) _ _ _
    have fin : ∀ h' : Heap, ZMid h' z TI TO i1 i2 S N (i + 1) → h'.IsListIter i1 l1 (i + 1) → h'.IsListIter i2 l2 (i + 1) → IsPair h' h.objs.size xs[i] ys[i] → h'.objs.size = h.objs.size + 1 → (∀ c o, c ≠ z → c ≠ TO → c ≠ i1 → c ≠ i2 → h.get? c = some o → h'.get? c = some o) →
        wpAny (model prog w) A.in1 (updateSeq S (fun a => a.push (Value.ref h.objs.size)) >>= fun _ => again (.builtin "list.extend.loop" ⟨[.ref S, .ref z, res], []⟩)) (fun fin s' => match fin with | .done f => R (.ok f) s' | .again c' => c'.quiet = true ∧ codeAny (model prog w) A c' R s') (fun e s' => R (.error e) s') { s with heap := h', toks := tk } := fun h' m1 r1 r2 pT sz kk => by
      have eS' : lstAt h' S acc c := kk S _ hS.1 hS.2.2.1 hS.2.2.2.1 hS.2.2.2.2.1 eS
      have oth : ∀ b o, b ≠ S → h'.get? b = some o → (h'.update S (Obj.mapSeq fun a => a.push (Value.ref h.objs.size))).get? b = some o := fun b o hb e => by rw [Heap.get?_update_other _ _ (Ne.symm hb)]; exact e
      have nS : h.objs.size ≠ S := Nat.ne_of_gt (Heap.lt_size eS)
      refine wpAny_bind (wpAny_updateSeq eS' rfl (wpAny_pure ⟨plainId_quiet PySem.F.plain_extend_loop _, ih (i + 1) _ tk _ (acc.push (Value.ref h.objs.size)) (as ++ [h.objs.size]) (by omega) hlt ?_ (oth TI _ (Ne.symm hS.2.1) (kk TI _ D.TIz D.TITO D.TIi1 D.TIi2 pTI)) (r1.at fun o e => oth i1 o (Ne.symm hS.2.2.2.1) e) (r2.at fun o e => oth i2 o (Ne.symm hS.2.2.2.2.1) e)
        (q1.at fun o e => oth l1 o (Ne.symm hS.2.2.2.2.2.1) (kk l1 o D.l1z D.l1TO D.l1i1 D.l1i2 e)) (q2.at fun o e => oth l2 o (Ne.symm hS.2.2.2.2.2.2) (kk l2 o D.l2z D.l2TO D.l2i1 D.l2i2 e)) (fun b o hb e => oth b o (fun q => hb (by simp [q])) (kk b o (fun q => hb (by simp [q])) (fun q => hb (by simp [q])) (fun q => hb (by simp [q])) (fun q => hb (by simp [q])) (old b o hb e)))
        (Heap.get?_update_self _ eS' rfl) (by rw [Array.toList_push, ea, List.map_append]; rfl) (by rw [List.length_append, la]; rfl) ?_ (by rw [Heap.size_update, sz]; exact Nat.le_succ_of_le big)⟩) (by rw [hsz]; omega) (by show (acc.push _).size ≤ sizeLine + 1; rw [Array.size_push, hsz]; omega))
      · rcases m1 with ⟨q, _⟩ | ⟨T, f, oT, m2, m3, m4⟩
        · cases q
        · exact .inr ⟨T, f, oT, oth z _ (Ne.symm hS.1) m2, oth T _ (lt S (by simp) T m4) m3, m4⟩
      · refine ⟨List.nodup_append.mpr ⟨zo.1, List.nodup_cons.mpr ⟨by simp, List.nodup_nil⟩, fun a ha b hb => ?_⟩, ?_⟩
        · rw [List.mem_singleton.mp hb]
          obtain ⟨j, hj, e⟩ := List.mem_iff_getElem.mp ha
          obtain ⟨_, _, _, _, _, g4⟩ := zo.2 j a (by rw [List.getElem?_eq_getElem hj, e])
          exact Nat.ne_of_lt (Heap.lt_size g4)
        intro j a hj
        by_cases h1 : j < as.length
        · rw [List.getElem?_append_left h1] at hj
          obtain ⟨g1, x, y, g2, g3, g4⟩ := zo.2 j a hj
          exact ⟨g1, x, y, g2, g3, oth a _ (lt S (by simp) a g1) (kk a _ (lt z (by simp) a g1) (lt TO (by simp) a g1) (lt i1 (by simp) a g1) (lt i2 (by simp) a g1) g4)⟩
        · rw [List.getElem?_append_right (Nat.le_of_not_lt h1)] at hj
          have hj0 : j = i := by
            by_cases h2 : j - as.length = 0
            · omega
            · rw [List.getElem?_eq_none (by simp; omega)] at hj; cases hj
          subst hj0
          rw [show j - as.length = 0 by omega] at hj
          cases hj
          exact ⟨big, _, _, hx, hy, oth _ _ nS pT⟩
    rcases mid with ⟨_, mz, a, b, mo⟩ | ⟨T, f, oT, mz, mT, mN⟩
    · refine wpAny_bind (wpAny_pyNext_zip_item (s := { s with heap := h, toks := tk }) D mz pTI mo p1 p2 q1 q2 hx hy fun h' z' TO' r1 r2 pT sz kk => fin h' (.inr ⟨h.objs.size, false, _, z', pT, big⟩) r1 r2 pT sz kk)
    · refine wpAny_bind (wpAny_pyNext_zip_item_held (s := { s with heap := h, toks := tk }) D mz mT pTI p1 p2 q1 q2 hx hy fun h' z' r1 r2 pT sz kk => fin h' (.inr ⟨T, true, oT, z', kk T oT (lt z (by simp) T mN) (lt i1 (by simp) T mN) (lt i2 (by simp) T mN) mT, mN⟩) r1 r2 pT sz fun c o c1 _ c3 c4 e => kk c o c1 c3 c4 e)
/-- list(zip(x, y)), the zip just made -/
theorem zip_list {Q : Value → Shared → Prop} (hh : A.handled = none) (D : ZipApart z TI TO i1 i2 l1 l2) (hn : min xs.size ys.size ≤ sizeLine) (hz : IsZip s.heap z TI TO .none) (hTI : IsPair s.heap TI (.ref i1) (.ref i2)) (hTO : ∃ a b, IsPair s.heap TO a b) (p1 : s.heap.IsListIter i1 l1 0) (p2 : s.heap.IsListIter i2 l2 0) (q1 : s.heap.IsList l1 xs) (q2 : s.heap.IsList l2 ys)
    (hQ : ∀ h' tk acc c as, (∀ b o, b ∉ [z, TO, i1, i2] → s.heap.get? b = some o → h'.get? b = some o) → lstAt h' s.heap.objs.size acc c → acc.toList = as.map Value.ref → as.length = min xs.size ys.size → ZOut h' xs ys (s.heap.objs.size + 1) as → Q (.ref s.heap.objs.size) { s with heap := h', toks := tk }) :
    wpAny (model prog w) A (call (.type "list") [.ref z]) Q E s := by
  have lt : ∀ b o, s.heap.get? b = some o → b < s.heap.objs.size := fun b o e => Heap.lt_size e
  have g1 : ∃ o, s.heap.get? i1 = some o := by obtain ⟨o, e, _⟩ := p1; exact ⟨o, e⟩
  have g2 : ∃ o, s.heap.get? i2 = some o := by obtain ⟨o, e, _⟩ := p2; exact ⟨o, e⟩
  have g3 : ∃ o, s.heap.get? l1 = some o := by obtain ⟨o, n, c, e, _⟩ := q1; exact ⟨o, by assumption⟩
  have g4 : ∃ o, s.heap.get? l2 = some o := by obtain ⟨o, n, c, e, _⟩ := q2; exact ⟨o, by assumption⟩
  have all : ∀ b ∈ [z, TI, TO, i1, i2, l1, l2], b < s.heap.objs.size := fun b hb => by
    simp only [List.mem_cons, List.not_mem_nil, or_false] at hb
    rcases hb with q | q | q | q | q | q | q
    · rw [q]; exact lt _ _ hz
    · rw [q]; exact lt _ _ hTI
    · rw [q]; obtain ⟨_, _, e⟩ := hTO; exact lt _ _ e
    · rw [q]; obtain ⟨_, e⟩ := g1; exact lt _ _ e
    · rw [q]; obtain ⟨_, e⟩ := g2; exact lt _ _ e
    · rw [q]; obtain ⟨_, e⟩ := g3; exact lt _ _ e
    · rw [q]; obtain ⟨_, e⟩ := g4; exact lt _ _ e
  have nS : ∀ b ∈ [z, TI, TO, i1, i2, l1, l2], s.heap.objs.size ≠ b := fun b hb => Nat.ne_of_gt (all b hb)
  have hS : s.heap.objs.size ≠ z ∧ s.heap.objs.size ≠ TI ∧ s.heap.objs.size ≠ TO ∧ s.heap.objs.size ≠ i1 ∧ s.heap.objs.size ≠ i2 ∧ s.heap.objs.size ≠ l1 ∧ s.heap.objs.size ≠ l2 := ⟨nS _ (by simp), nS _ (by simp), nS _ (by simp), nS _ (by simp), nS _ (by simp), nS _ (by simp), nS _ (by simp)⟩
  refine callType_codes (Q₁ := fun ob s1 => ob = .ref s.heap.objs.size ∧ s1 = { s with heap := s.heap.push { cls := .type "list", data := .seq #[] } }) PySem.F.called_list (PySem.F.typeCall_list_1 _) PySem.F.entry_list_init
    (code_list_new _ ⟨rfl, rfl⟩) fun ob s1 ⟨e1, e2⟩ => ?_
  subst e1 e2
  have eS : lstAt (s.heap.push { cls := .type "list", data := .seq #[] }) s.heap.objs.size #[] 0 := Heap.get?_push_size _ rfl
  refine ⟨⟨_, eS, rfl⟩, PySem.F.args_list_init_2 _ _, ?_⟩
  show wpAny _ _ (do let was ← Builtin.List.listItems (.ref s.heap.objs.size); Builtin.List.listUpdate (.ref s.heap.objs.size) (fun _ => #[]); letGo was.toList.reverse; Builtin.List.listExtendWith (.ref s.heap.objs.size) (.ref z) .none) _ _ _
  unfold Builtin.List.listItems
  refine wpAny_bind (wpAny_bind (wpAny_seqItems eS rfl (wpAny_pure ?_)))
  show wpAny _ _ (updateSeq s.heap.objs.size (fun _ => #[]) >>= fun _ => letGo (#[] : Array Value).toList.reverse >>= fun _ => Builtin.List.listExtendWith (.ref s.heap.objs.size) (.ref z) Value.none) _ _ _
  refine wpAny_bind (wpAny_updateSeq eS rfl (wpAny_bind (wpAny_letGo ?_)))
  have e1 := Heap.get?_update_self (Obj.mapSeq fun _ => (#[] : Array Value)) eS rfl
  have old : ∀ b o, s.heap.get? b = some o → ((s.heap.push { cls := .type "list", data := .seq #[] }).update s.heap.objs.size (Obj.mapSeq fun _ => (#[] : Array Value))).get? b = some o := fun b o e => by
    rw [Heap.get?_update_other _ _ (Nat.ne_of_gt (lt b o e))]; exact Heap.get?_push_of_some _ e
  have run : ∀ (h : Heap) (c tk : Nat), (∀ b o, s.heap.get? b = some o → h.get? b = some o) → h.objs.size = s.heap.objs.size + 1 → lstAt h s.heap.objs.size #[] c →
      codeAny (model prog w) A.in1 (.builtin "list.extend.loop" ⟨[.ref s.heap.objs.size, .ref z, .none], []⟩) (fun r s' => ∃ v, r = .ok (.ret v) ∧ (v = .none ∧ Q (.ref s.heap.objs.size) s')) { s with heap := h, toks := tk } := fun h c tk o1 sz e => by
    refine zip_loop (A := A.in1) (R := fun r s' => ∃ v, r = .ok (.ret v) ∧ (v = .none ∧ Q (.ref s.heap.objs.size) s')) (S := s.heap.objs.size) (N := s.heap.objs.size + 1) hh D hn .none hS (fun b hb => ?_) h (fun h' tk' acc c' as kk e' ea la zo => ⟨_, rfl, rfl, hQ h' tk' acc c' as (fun b o hb q => kk b o (fun qq => ?_) (o1 b o q)) e' ea la zo⟩) _ 0 h tk c #[] [] rfl (Nat.zero_le _)
      (.inl ⟨rfl, o1 _ _ hz, let ⟨a, b, q⟩ := hTO; ⟨a, b, o1 _ _ q⟩⟩) (o1 _ _ hTI) (p1.at fun o q => o1 _ _ q) (p2.at fun o q => o1 _ _ q) (q1.at fun o q => o1 _ _ q) (q2.at fun o q => o1 _ _ q) (fun b o _ q => q) e rfl rfl ⟨List.nodup_nil, fun j a hj => by simp at hj⟩ (by rw [sz]; exact Nat.le_refl _)
    · rcases List.mem_cons.mp hb with q | q
      · rw [q]; exact Nat.lt_succ_self _
      · exact Nat.lt_succ_of_lt (all b q)
    · rcases List.mem_cons.mp qq with q2 | q2
      · exact absurd (lt b o q) (by rw [q2]; exact Nat.lt_irrefl _)
      · exact hb q2
  have neq : Builtin.List.listSameRef (.ref s.heap.objs.size) (.ref z) = false := by simp [Builtin.List.listSameRef, hS.1]
  have zl : typeLookup (.type "zip") "__len__" = pure none := am_miss_of_fast (by decide +kernel)
  have zh : typeLookup (.type "zip") "__length_hint__" = pure none := am_miss_of_fast (by decide +kernel)
  have n1 : (Value.type "zip" == Value.type "list") = false := by decide
  have n2 : (Value.type "zip" == Value.type "tuple") = false := by decide
  have sz1 : ((s.heap.push { cls := .type "list", data := .seq #[] }).update s.heap.objs.size (Obj.mapSeq fun _ => (#[] : Array Value))).objs.size = s.heap.objs.size + 1 := by rw [Heap.size_update, Heap.size_push]
  unfold Builtin.List.listExtendWith
  refine wpAny_bind (wpAny_typeOf (T := "zip") ⟨_, old _ _ hz, rfl⟩ ?_)
  simp only [neq, n1, n2, Bool.or_false, Bool.false_eq_true, if_false]
  refine wpAny_bind (wpAny_pyIter_zip (old _ _ hz) (wpAny_bind (wpAny_holding ?_)))
  unfold Builtin.List.listLengthHint
  refine wpAny_bind (wpAny_specialOf (T := "zip") ⟨_, old _ _ hz, rfl⟩ zl ?_)
  refine wpAny_bind (wpAny_specialOf (T := "zip") ⟨_, old _ _ hz, rfl⟩ zh ?_)
  refine wpAny_pure (wpAny_ite_split (fun _ => ?_) fun no => absurd rfl no)
  refine wpAny_bind (wpAny_rule (wpAny_bind ?_))
  show wpAny _ _ (updateSeq s.heap.objs.size (fun a => a.push .none) >>= fun _ => updateSeq s.heap.objs.size fun a => a.pop) _ _ _
  refine wpAny_bind (wpAny_updateSeq e1 rfl ?_)
  have e2 := Heap.get?_update_self (Obj.mapSeq fun a => a.push Value.none) e1 rfl
  refine wpAny_updateSeq (hz := by seq_fits) e2 rfl (wpAny_pure ⟨plainId_quiet PySem.F.plain_extend_loop _, codeAny_mono (run _ _ _ (fun b o e => ?_) ?_ (Heap.get?_update_self (Obj.mapSeq fun a => a.pop) e2 rfl)) fun r s' ⟨v, h1, h2⟩ => ?_⟩)
  · rw [Heap.get?_update_other _ _ (Nat.ne_of_gt (lt b o e)), Heap.get?_update_other _ _ (Nat.ne_of_gt (lt b o e))]; exact old b o e
  · rw [Heap.size_update, Heap.size_update]; exact sz1
  · rw [h1]; exact h2
end
end Dl
namespace Dl
open PySem PySem.Spec PyProof.Rows L2
/-- pairs laid at new places -/
def layT (H : Hp) : List (Addr × V × V) → Hp
  | [] => H
  | (t, x, y) :: r => upd (layT H r) t (.tup [x, y])
theorem layT_ne {H : Hp} : ∀ {r : List (Addr × V × V)} {b : Addr}, b ∉ r.map (·.1) → layT H r b = H b
  | [], _, _ => rfl
  | (t, x, y) :: r, b, h => by
    unfold layT
    rw [upd_ne (fun z => h (by rw [z]; exact List.mem_cons_self ..)), layT_ne fun z => h (List.mem_cons_of_mem _ z)]
theorem layT_at {H : Hp} : ∀ {r : List (Addr × V × V)} {p : Addr × V × V}, (r.map (·.1)).Nodup → p ∈ r → layT H r p.1 = some (.tup [p.2.1, p.2.2])
  | (t, x, y) :: r, p, nd, h => by
    have nd' := List.nodup_cons.mp nd
    unfold layT
    rcases List.mem_cons.mp h with e | e
    · rw [e]; exact upd_same
    · rw [upd_ne (fun z => nd'.1 (by rw [← z]; exact List.mem_map.mpr ⟨p, e, rfl⟩))]
      exact layT_at nd'.2 e
theorem hok_add {P : Program} {w : World} {H : Hp} {h : Heap} {a : Addr} {o : HO} (x : HOk P w H h) (hn : H a = none) (new : ObjOk P w (upd H a o) h a o) : HOk P w (upd H a o) h := fun b u e => by
  by_cases hb : b = a
  · subst hb; rw [upd_same] at e; cases e; exact new
  · rw [upd_ne hb] at e
    exact (x b u e).stay (fun c v _ q => q) (fun c q => by rw [upd_ne (ne_of_none q hn)]; exact q) fun c xs q => by rw [upd_ne (ne_of_none q hn)]; exact q
theorem un_add {fs ex : List Addr} {H H1 : Hp} {h h' : Heap} {a : Addr} {o : HO} (u : Un fs ex H H1 h h') (hp : h.objs.size ≤ a) (hn : H1 a = none) : Un fs ex H (upd H1 a o) h h' where
  keep := u.keep
  slot := u.slot
  free := fun b ob q n hx => by rw [upd_ne (Nat.ne_of_lt (Nat.lt_of_lt_of_le (Heap.lt_size q) hp))]; exact u.free b ob q n hx
  there := u.there
  tups := fun b xs q => by have := u.tups b xs q; rw [upd_ne (ne_of_none this hn)]; exact this
  frzs := fun b ob v q => by have := u.frzs b ob v q; rw [upd_ne (ne_of_none this hn)]; exact this
  tbls := fun b ps q => by obtain ⟨m, e⟩ := u.tbls b ps q; exact ⟨m, by rw [upd_ne (ne_of_none e hn)]; exact e⟩
theorem lay_all {P : Program} {w : World} {fs ex : List Addr} {H : Hp} {h h' : Heap} (x : HOk P w H h') (u : Un fs ex H H h h') : ∀ (r : List (Addr × V × V)), (r.map (·.1)).Nodup → (∀ p ∈ r, h.objs.size ≤ p.1 ∧ H p.1 = none ∧ ∃ a b, L2.RelV p.2.1 a ∧ L2.RelV p.2.2 b ∧ IsPair h' p.1 a b) → HOk P w (layT H r) h' ∧ Un fs ex H (layT H r) h h'
  | [], _, _ => ⟨x, u⟩
  | (t, y, z) :: r, nd, hp => by
    have nd' := List.nodup_cons.mp nd
    obtain ⟨h1, h2⟩ := lay_all x u r nd'.2 fun p q => hp p (List.mem_cons_of_mem _ q)
    obtain ⟨g1, g2, a, b, ra, rb, g3⟩ := hp _ (List.mem_cons_self ..)
    have hn : layT H r t = none := by rw [layT_ne nd'.1]; exact g2
    exact ⟨hok_add h1 hn ⟨by show 2 ≤ sizeLine; decide, [a, b], .cons ra (.cons rb .nil), ⟨_, g3, rfl, _, rfl⟩⟩, un_add h2 g1 hn⟩
def tLsZip (ta tb : TE) : TE := fun σ H Q => ta σ H fun x H1 => tb σ H1 fun y H2 => ∃ a b xs ys, x = .ref a ∧ y = .ref b ∧ H2 a = some (.lst xs) ∧ H2 b = some (.lst ys) ∧
  ∀ (r : List (Addr × V × V)), r.map (·.2) = xs.zip ys → (r.map (·.1)).Nodup → (∀ p ∈ r, H2 p.1 = none) → ∀ q, layT H2 r q = none → Q (.ref q) (upd (layT H2 r) q (.lst (r.map fun p => V.ref p.1)))
section
variable {X : Cx} {W : WX} {a b : Expr} {p pos p2 p3 : Pos} {Ta Tb : DTE}
theorem pe_lsZip {ta tb : TE} (hc : X.calm = true) (hm : X.mg "list" = none) (hm2 : X.mg "zip" = none) (ha : PE X a ta) (hb : PE X b tb) (hg : Gl X "list") (hg2 : Gl X "zip") (na : starEach [a, b] X.env = (false, eval a X.env) :: starEach [b] X.env)
    (na2 : starEach [b] X.env = (false, eval b X.env) :: starEach [] X.env) (hp : (backTo p2 (starEach [b] X.env)).any (·.1) = false)
    (nb : starEach [.Call (.Name "zip" p) [a, b] [] p2] X.env = (false, eval (.Call (.Name "zip" p) [a, b] [] p2) X.env) :: starEach [] X.env) : PE X (.Call (.Name "list" p3) [.Call (.Name "zip" p) [a, b] [] p2] [] pos) (tLsZip ta tb) := by
  refine ⟨fun pins s σ H Q I h => ?_⟩
  refine Call_ (ld_blt I hg hm boot_list (PyProof.Rows.callWith_type1 (args_cons ?_ nb) nb))
  refine Call_ (ld_blt I hg2 hm2 PyProof.Rows.boot_zip (PyProof.Rows.callWith_type1 (args_cons (thn (ha.run pins s σ H _ I h) fun u s1 ⟨x, H1, I1, r1, q1⟩ => one_arg hb I1 q1 (fun v s2 y H2 I2 r2 q => ?_) na2) na) na hp))
  obtain ⟨l1, l2, xs, ys, rfl, rfl, e1, e2, q⟩ := q
  cases r1; cases r2
  obtain ⟨z1, its1, n1, rv1, o1⟩ := I2.hok l1 _ e1
  obtain ⟨z2, its2, n2, rv2, o2⟩ := I2.hok l2 _ e2
  have p1 : s2.heap.IsList l1 its1.toArray := ⟨_, o1, rfl, _, rfl⟩
  have p2 : s2.heap.IsList l2 its2.toArray := ⟨_, o2, rfl, _, rfl⟩
  have hl1 := rv1.length
  have hl2 := rv2.length
  refine call_zip_2 p1 p2 fun hz iz iTI iTO it1 it2 hsz hk => args_nil ?_
  have D := PySem.W.ktu_apart s2.heap.objs.size l1 l2 (Heap.lt_size o1) (Heap.lt_size o2)
  refine zip_list (s := { s2 with heap := hz }) (I2.ok.hd hc) D (by simp only [List.size_toArray]; omega) iz iTI ⟨_, _, iTO⟩ it1 it2 (p1.at fun o e => hk _ o e) (p2.at fun o e => hk _ o e) fun h' tk acc c as old eL ea la zo => ?_
  have old0 : ∀ b o, s2.heap.get? b = some o → h'.get? b = some o := fun b o e => old b o (fun q => by
    have hlt := Heap.lt_size e
    simp only [List.mem_cons, List.not_mem_nil, or_false] at q
    rcases q with q | q | q | q <;> (rw [q] at hlt; exact absurd hlt (Nat.not_lt.mpr (by first | exact Nat.le_add_right _ _ | exact Nat.le_refl _)))) (hk b o e)
  have I3 : L2.Inv X pins σ H2 { s2 with heap := h', toks := tk } := I2.kept old0
  -- the pairs made, with what they hold
  have big : ∀ t, hz.objs.size + 1 ≤ t → s2.heap.objs.size ≤ t := fun t ht => by rw [hsz] at ht; exact Nat.le_trans (Nat.le_add_right _ 6) ht
  have hlen : as.length = (xs.zip ys).length := by rw [la, List.length_zip]; simp only [List.size_toArray]; omega
  have nd : as.Nodup := zo.1
  have m1 : (as.zip (xs.zip ys)).map (·.2) = xs.zip ys := List.map_snd_zip (by omega)
  have m2 : (as.zip (xs.zip ys)).map (·.1) = as := List.map_fst_zip (by omega)
  have hat : ∀ p ∈ as.zip (xs.zip ys), hz.objs.size + 1 ≤ p.1 ∧ ∃ a b, L2.RelV p.2.1 a ∧ L2.RelV p.2.2 b ∧ IsPair h' p.1 a b := fun p hp => by
    obtain ⟨j, hj, e⟩ := List.mem_iff_getElem.mp hp
    have hj1 : j < as.length := by rw [List.length_zip] at hj; omega
    have hj2 : j < (xs.zip ys).length := by omega
    have hx : j < xs.length := by rw [List.length_zip] at hj2; omega
    have hy : j < ys.length := by rw [List.length_zip] at hj2; omega
    rw [List.getElem_zip, List.getElem_zip] at e
    obtain ⟨g1, u, v, g2, g3, g4⟩ := zo.2 j as[j] (List.getElem?_eq_getElem hj1)
    obtain ⟨u', eu, ru⟩ := rv1.get (List.getElem?_eq_getElem hx)
    obtain ⟨v', ev, rv⟩ := rv2.get (List.getElem?_eq_getElem hy)
    have g2' : its1[j]? = some u := by simpa using g2
    have g3' : its2[j]? = some v := by simpa using g3
    rw [g2'] at eu; rw [g3'] at ev
    cases eu; cases ev
    rw [← e]
    exact ⟨g1, u, v, ru, rv, g4⟩
  have fr : ∀ t, s2.heap.objs.size ≤ t → H2 t = none := fun t ht => I2.hok.fresh ht
  obtain ⟨k1, k2⟩ := lay_all (fs := X.fs) (ex := []) (h := s2.heap) I3.hok ⟨fun b o e _ _ _ => old0 b o e, fun b o e _ _ _ => ⟨o.slots, old0 b o e⟩, fun b o e n _ => n, fun b o e _ => ⟨o, old0 b o e⟩, fun b v e => e, fun b o v e => e, fun b ps e => ⟨#[], by rw [e]; simp⟩⟩ (as.zip (xs.zip ys)) (by rw [m2]; exact nd) fun p hp => by
    obtain ⟨g1, g2⟩ := hat p hp
    exact ⟨big _ g1, fr _ (big _ g1), g2⟩
  have hq : layT H2 (as.zip (xs.zip ys)) hz.objs.size = none := by
    rw [layT_ne]
    · exact fr _ (by rw [hsz]; exact Nat.le_add_right _ _)
    · rw [m2]
      intro q
      obtain ⟨j, hj, e⟩ := List.mem_iff_getElem.mp q
      obtain ⟨g1, _⟩ := zo.2 j as[j] (List.getElem?_eq_getElem hj)
      rw [e] at g1
      exact Nat.lt_irrefl _ g1
  have I4 : L2.Inv X pins σ (layT H2 (as.zip (xs.zip ys))) { s2 with heap := h', toks := tk } := I2.un (t' := tk) k2 k1
  refine ⟨.ref hz.objs.size, _, ?_, rfl, q (as.zip (xs.zip ys)) m1 (by rw [m2]; exact nd) (fun p hp => fr _ (big _ (hat p hp).1)) _ hq⟩
  refine I2.un (t' := tk) (un_add k2 (by rw [hsz]; exact Nat.le_add_right _ _) hq) (hok_add k1 hq ⟨?_, as.map Value.ref, c, ?_, by rw [← ea, Array.toArray_toList]; exact eL⟩)
  · rw [List.length_map, List.length_zip, hlen, Nat.min_self, List.length_zip]; omega
  · have : (as.zip (xs.zip ys)).map (fun p => V.ref p.1) = as.map V.ref := by rw [← m2, List.map_map, m2]; rfl
    rw [this]
    clear this m1 m2 hat k1 k2 hq I4 q la ea zo nd hlen
    induction as with
    | nil => exact .nil
    | cons t as ih => exact .cons rfl ih
def dLsZip (a b : DTE) : DTE := fun ρ M Q R => a ρ M (fun x M1 => b ρ M1 (fun y M2 => ∃ xs ys, x = .lst xs ∧ y = .lst ys ∧ Q (.lst (zipD xs ys)) M2) R) R
theorem At.lay {K : PySem.W.Frag} {σ : L2.St} {ρ : Dl.Env} {Z H : Hp} {M : Mem} (a : At K Z H σ ρ M) : ∀ (r : List (Addr × V × V)), (r.map (·.1)).Nodup → (∀ p ∈ r, H p.1 = none) → Gr Z H M (layT Z r) (layT H r) M ∧ At K (layT Z r) (layT H r) σ ρ M
  | [], _, _ => ⟨Gr.refl _ _ _, a⟩
  | (t, x, y) :: r, nd, hp => by
    have nd' := List.nodup_cons.mp nd
    obtain ⟨g, a1⟩ := At.lay a r nd'.2 fun p q => hp p (List.mem_cons_of_mem _ q)
    obtain ⟨g2, a2⟩ := a1.new (o := .tup [x, y]) (p := t) (by rw [layT_ne nd'.1]; exact hp _ (List.mem_cons_self ..))
    exact ⟨g.trans g2, a2⟩
theorem zip_rep {K : PySem.W.Frag} {Z Z0 : Hp} (e : Ex Z0 Z) : ∀ {r : List (Addr × V × V)} {xs ys : List V} {ds es : List D}, r.map (·.2) = xs.zip ys → (∀ p ∈ r, Z p.1 = some (.tup [p.2.1, p.2.2])) → RepL K Z0 xs ds → RepL K Z0 ys es → RepL K Z (r.map fun p => V.ref p.1) (zipD ds es)
  | [], [], _, _, _, _, _, .nil, _ => by simp only [zipD]; exact .nil
  | [], _ :: _, [], _, _, _, _, .cons _ _, .nil => by simp only [zipD]; exact .nil
  | [], _ :: _, _ :: _, _, _, h, _, _, _ => by cases h
  | _ :: _, [], _, _, _, h, _, _, _ => by cases h
  | _ :: _, _ :: _, [], _, _, h, _, _, _ => by cases h
  | p :: r, x :: xs, y :: ys, _, _, h, hz, .cons r1 t1, .cons r2 t2 => by
    have h1 : p.2 = (x, y) := (List.cons.inj h).1
    have h2 := (List.cons.inj h).2
    have z := hz p (List.mem_cons_self ..)
    rw [h1] at z
    simp only [zipD]
    exact .cons (.tup z (.cons (r1.mono e) (.cons (r2.mono e) .nil))) (zip_rep e h2 (fun q hq => hz q (List.mem_cons_of_mem _ hq)) t1 t2)
theorem de_lsZip (hc : X.calm = true) (hm : X.mg "list" = none) (hm2 : X.mg "zip" = none) (ha : DE X W a Ta) (hb : DE X W b Tb) (hg : Gl X "list" := by rfl) (hg2 : Gl X "zip" := by rfl) (na : starEach [a, b] X.env = (false, eval a X.env) :: starEach [b] X.env := by rfl)
    (na2 : starEach [b] X.env = (false, eval b X.env) :: starEach [] X.env := by rfl) (hp : (backTo p2 (starEach [b] X.env)).any (·.1) = false := by rfl)
    (nb : starEach [.Call (.Name "zip" p) [a, b] [] p2] X.env = (false, eval (.Call (.Name "zip" p) [a, b] [] p2) X.env) :: starEach [] X.env := by rfl) : DE X W (.Call (.Name "list" p3) [.Call (.Name "zip" p) [a, b] [] p2] [] pos) (dLsZip Ta Tb) :=
  wkE (pe_lsZip hc hm hm2 ha hb hg hg2 na na2 hp nb) fun σ H Q ⟨Z, ρ, M, Qd, Rd, G, h⟩ => G.seq (rel1 := Rep X.K) h fun Z1 H1 M1 v x G1 _ rx h1 => G1.seq (rel1 := Rep X.K) h1 fun Z2 H2 M2 w y G2 e2 ry h2 => by
    obtain ⟨ds, es, rfl, rfl, q⟩ := h2
    replace rx := rx.mono e2
    cases rx with
    | lst hz rl =>
      cases ry with
      | lst hz2 rl2 =>
        refine ⟨_, _, _, _, rfl, rfl, G2.h hz, G2.h hz2, fun r h1 h2 h3 t ht => ?_⟩
        obtain ⟨g, a'⟩ := At.lay G2.at_ r h2 h3
        refine (G2.step g a').new (o := .lst _) ht (.lst upd_same ?_) q
        exact (zip_rep g.zz h1 (fun p hp => layT_at h2 hp) rl rl2).mono (Ex.new (a'.zh.free ht))
/-! the rest -/
def oNeg : D → Mem → DQ → Prop
  | .int i, M, Q => Q (.int (-i)) M
  | _, _, _ => False
theorem ud_neg {K : PySem.W.Frag} : UnD K (rU fun i => .int (-i)) oNeg := by
  intro W σ ρ Z H M Qd Rd Q v x G rx h
  cases x <;> first | exact h.elim | skip
  cases rx; exact ⟨_, rfl, G.val (.int _) h⟩
def oIAdd : D → D → Mem → DQ → Prop
  | .int i, .int j, M, Q => Q (.int (i + j)) M
  | _, _, _, _ => False
theorem od_ipadd {K : PySem.W.Frag} : OpD K (ipI fun i j => i + j) oIAdd := by
  intro W σ ρ Z H M Qd Rd Q v w x y G rx ry h
  cases x <;> cases y <;> first | exact h.elim | skip
  cases rx; cases ry; exact ⟨_, _, rfl, rfl, G.val (.int _) h⟩
theorem od_ipsub {K : PySem.W.Frag} : OpD K (ipI fun i j => i - j) oSub := by
  intro W σ ρ Z H M Qd Rd Q v w x y G rx ry h
  cases x <;> cases y <;> first | exact h.elim | skip
  cases rx; cases ry; exact ⟨_, _, rfl, rfl, G.val (.int _) h⟩
/-- a list of two ints that draws are made from -/
def dNewCan (a : DTA) : DTE := fun ρ M Q R => a ρ M (fun xs M1 => ∃ i j, xs = [.int i, .int j] ∧ CanOk i j ∧ ∀ p, p ∉ keys M1 → Q (.obj p) ((p, .can) :: M1)) R
theorem de_newCan {es : List Expr} {TA : DTA} (h : DA X W es TA) : DE X W (.List es pos) (dNewCan TA) :=
  wkE (pe_lst h) fun σ H Q ⟨Z, ρ, M, Qd, Rd, G, h⟩ => G.seq (rel1 := RepL X.K) h fun Z1 H1 M1 vs xs G1 _ rs h1 => by
    obtain ⟨i, j, rfl, c, q⟩ := h1
    obtain ⟨v, w, rfl, r1, r2⟩ := rs.two
    cases r1; cases r2
    exact ⟨by show 2 ≤ sizeLine; decide, fun p hp => G1.newM (o := .lst _) (m := .can) hp ⟨i, j, upd_same, c⟩ (.obj p) (q p)⟩
end
end Dl
namespace L2
theorem Room.u65 {k : Nat} {A : PySem.Around} (r : Room k A) : A.units + 65 < PySem.cLine := by have := r.un; omega
theorem Room.u64 {k : Nat} {A : PySem.Around} (r : Room k A) : A.units + 64 < PySem.cLine := by have := r.un; omega
theorem Room.u70 {k : Nat} {A : PySem.Around} (r : Room k A) : A.units + 70 < PySem.cLine := by have := r.un; omega
theorem Room.u1 {k : Nat} {A : PySem.Around} (r : Room k A) : A.units + 1 < PySem.cLine := by have := r.un; omega
theorem Room.u0 {k : Nat} {A : PySem.Around} (r : Room k A) : A.units < PySem.cLine := by have := r.un; omega
end L2
namespace Dl
open PySem PySem.Spec PyProof.Rows L2
/-! # A caught error, handed to a def -/
/-- at the def's entry a held an error of the class D, tracked by nobody -/
structure ErrAt (X : Cx) (a D : Addr) : Prop where
  oe : ∃ oe : Obj, X.s_0.heap.get? a = some oe ∧ Zc (.ref D) none oe ∧ ∃ vs, oe.data = .fields vs
  na : X.H_0 a = none
  nf : a ∉ X.fs
  nx : a ∉ X.ex
theorem call_isErr {X : Cx} {a D : Addr} (C : ExcC X.K D) (h : ErrAt X a D) : CallR X (.builtin "isinstance") (rIsE X.K D a) := by
  intro pins s σ H xs us Q I r h1
  obtain ⟨c, cv, b, rfl, hcv, e, q⟩ := h1
  obtain ⟨u, w, rfl, r1, r2⟩ := Vals.two r
  obtain rfl : u = Value.ref a := r1
  obtain rfl := hcv _ r2
  obtain ⟨oe, h0, hz, vs, hv⟩ := h.oe
  have hget := I.base.keep a oe h0 h.na h.nf h.nx
  have J : PySem.W.InstAt s.heap a oe D none := by
    obtain ⟨oc, od, oda, osl⟩ := oe
    obtain ⟨z1, z2⟩ := hz
    dsimp only at z1 z2 hv
    subst z1 z2 hv
    exact ⟨hget, rfl, rfl, trivial⟩
  exact PySem.W.kia_one (PySem.W.handS_kitx_exc C.hg C.hk C.hs C.hd C.ha C.hn C.ht C.hm) I.kIn J e (fun z => nomatch z) fun tk => ⟨.bl b, H, I.kept (t' := tk) fun _ _ z => z, rfl, q⟩
/-- isinstance(x, c), x an error that was handed in: b tells -/
def dErrIs (i : Nat) (a : Addr) (b : Bool) : DTE := fun ρ M Q _ => nth ρ i = some (.obj a) ∧ Q (.bl b) M
section
variable {X : Cx} {W : WX} {e : Expr} {p p2 pos : Pos} {a D : Addr} {i : Nat} {b : Bool}
theorem errIs_fin {v : V} {cv : V} {cu : Value} (he : DE X W e (dVar i)) (hcv : ∀ u, RelV cv u → u = cu) (hk : PySem.W.kitOne X.K (.ref D) cu = some b) : ∀ σ H (Q : VK), lE X.K W (dErrIs i a b) σ H Q → lE X.K W (dVar i) σ H fun v H1 => rIsE X.K D a [v, cv] H1 Q := fun σ H Q ⟨Z, ρ, M, Qd, Rd, G, h⟩ => by
  obtain ⟨hn, q⟩ := h
  refine G.seq (rel1 := Rep X.K) (Q1 := fun d M1 => d = .obj a ∧ Qd (.bl b) M1) (by unfold dVar; rw [hn]; exact ⟨rfl, q⟩) fun Z1 H1 M1 v x G1 _ rx h1 => ?_
  obtain ⟨rfl, q1⟩ := h1
  cases rx
  exact ⟨cv, cu, b, rfl, hcv, hk, G1.val (.bl _) q1⟩
end
/-! ### what stands at the law's entry, but the tables -/
def ntz (H : Hp) : Hp := fun b => match H b with
  | some (.tbl _) => none
  | o => o
instance (o : Obj) (u : HO) : NT (.frz o u) := ⟨fun _ z => by cases z⟩
theorem ntz_eq {H : Hp} {b : Addr} {o : HO} (n : NT o) (h : H b = some o) : ntz H b = some o := by
  unfold ntz
  rw [h]
  cases o <;> first | rfl | exact absurd rfl (n.nt _)
theorem ntz_sub (H : Hp) : Ex (ntz H) H := fun b o h => by
  unfold ntz at h
  cases q : H b with
  | none => rw [q] at h; cases h
  | some u => rw [q] at h; cases u <;> first | exact h | cases h
theorem ntz_nz (H : Hp) : ∀ b ps, ntz H b ≠ some (.tbl ps) := fun b ps z => by
  unfold ntz at z
  cases q : H b with
  | none => rw [q] at z; cases z
  | some u => rw [q] at z; cases u <;> cases z
theorem ntz_tbl {H : Hp} {b : Addr} {ps : Array Value} (h : H b = some (.tbl ps)) : ntz H b = none := by unfold ntz; rw [h]
theorem ntz_l {K : PySem.W.Frag} {H : Hp} {a : Addr} {xs : List V} (h : SqL K H a xs) : SqL K (ntz H) a xs := by
  rcases h with (h | ⟨o, h⟩) | h
  · exact .inl (.inl (ntz_eq inferInstance h))
  · exact .inl (.inr ⟨o, ntz_eq inferInstance h⟩)
  · exact .inr h
end Dl
namespace Dl
open PySem PySem.Spec PyProof.Rows L2 HotX
/-! # Lists walked while an exception is handled -/
theorem nextEnd_hot {prog : Program} {w : World} {A : Around} {E : Value → Shared → Prop} {s : Shared} {I L x1 : Addr} {k : Nat} {its : Array Value} {Q : Value → Shared → Prop} (hot : HotAt A x1 s.heap) (ne : x1 ≠ I)
    (st : s.heap.IsListIter I L k) (sl : s.heap.IsList L its) (no : its[k]? = none)
    (q : ∀ h' e, Heap.ExtBut I s.heap h' → (∃ o, h'.get? e = some o ∧ o.cls = .type "StopIteration") → E (.ref e) { s with heap := h' }) :
    wpAny (model prog w) A (Builtin.SmallTypes.nextOf (.ref I)) Q E s := by
  obtain ⟨oI, gI, cI, dI⟩ := id st
  obtain ⟨oL, gL, _, nL, dL⟩ := sl
  obtain ⟨hh, o1, vs1, g1, d1, c1⟩ := hot
  unfold Builtin.SmallTypes.nextOf
  refine wpAny_bind (wpAny_callSpecial?_slot (name := Str.ofString "__next__") st.typeIs slot_listiter_next (wpAny_call_entry slot_listiter_next st.typeIs entry_listiter_next ?_ (args_listiter_next _)))
  show wpAny (model prog w) _ (field (.ref I) 0 >>= _) _ _ s
  refine wpAny_bind (wpAny_field gI dI (x := .ref L) rfl ?_)
  show wpAny (model prog w) _ (if (Value.ref L == Value.none) = true then _ else _) _ _ s
  rw [if_neg (show ¬ (Value.ref L == Value.none) = true from Bool.false_ne_true)]
  show wpAny (model prog w) _ (field (.ref I) 1 >>= _) _ _ s
  refine wpAny_bind (wpAny_field gI dI (x := .int k 0) rfl ?_)
  show wpAny (model prog w) _ (seqItems? (.ref L) >>= _) _ _ s
  refine wpAny_bind (wpAny_seqItems gL dL ?_)
  simp only [Int.toNat_natCast, no]
  refine wpAny_bind (wpAny_rule (wpAny_bind (wpAny_setField gI dI (by simp) ?_)))
  show wpAny (model prog w) _ (newExc (.type "StopIteration") [] >>= _) _ _ _
  refine wpAny_bind ?_
  simp only [newExc, newTuple]
  refine wpAny_bind (wpAny_newObj_type ?_ (by size_fits))
  refine wpAny_bind (m := firstArgMember _ _) (wpAny_of_eq (a := Value.none) (by first | (simp only [firstArgMember]; rfl) | rfl) ?_)
  refine wpAny_newObj_type ?_ (by size_fits)
  have gx : (s.heap.update I (Obj.mapFields fun x => x.setIfInBounds 0 Value.none)).get? x1 = some o1 := by rw [Heap.get?_update_other _ _ (Ne.symm ne)]; exact g1
  have gx2 := Heap.get?_push_of_some { cls := Value.type "tuple", data := Data.seq #[] } gx
  refine raiseNew_hot (x1 := x1) ⟨hh, o1, vs1, Heap.get?_push_of_some _ gx2, d1, c1⟩ (Nat.ne_of_lt (Heap.lt_size gx2)) (Heap.get?_push_size _ rfl) rfl (by simp; omega) ?_
  refine q _ _ (fun b o hb e => ?_) ⟨_, Heap.get?_update_self _ (Heap.get?_push_size _ rfl) rfl, rfl⟩
  have e2 : (s.heap.update I (Obj.mapFields fun x => x.setIfInBounds 0 Value.none)).get? b = some o := by rw [Heap.get?_update_other _ _ (Ne.symm hb)]; exact e
  have e3 := Heap.get?_push_of_some { cls := Value.type "tuple", data := Data.seq #[] } e2
  rw [Heap.get?_update_other _ _ (Nat.ne_of_gt (Heap.lt_size e3))]
  exact Heap.get?_push_of_some _ e3
/-- a list, drawn from while x1 is handled -/
theorem draws_hot {prog : Program} {w : World} {A : Around} {x1 : Addr} (hh : A.handled = some (.ref x1)) (I L : Addr) (ne : L ≠ I) (nx : x1 ≠ I) (its : Array Value) :
    Draws prog w A I [I, L, x1] its.size (fun i v => its[i]? = some v) (fun i h => (h.IsListIter I L i ∧ h.IsList L its) ∧ HotAt A x1 h) where
  live := fun i h st => by obtain ⟨o, g, _⟩ := st.1.1; exact ⟨o, g⟩
  frame := fun i h h' st k => by
    obtain ⟨⟨s1, s2⟩, hx, o, vs, g, r⟩ := st
    exact ⟨⟨s1.at fun o e => k I (by simp) o e, s2.at fun o e => k L (by simp) o e⟩, hx, o, vs, k x1 (by simp) _ g, r⟩
  item := fun i s Q E hi st hQ => by
    refine wpAny_nextOf_list_item st.1.1 st.1.2 (x := its[i]) (by simp [hi]) fun h' t' sb => ?_
    obtain ⟨hx, o, vs, g, r⟩ := st.2
    exact hQ _ h' s.toks (by simp [hi]) ⟨⟨t', st.1.2.extBut sb.extBut ne⟩, hx, o, vs, sb.extBut x1 o nx g, r⟩ sb
  done := fun s Q E st hE => nextEnd_hot st.2 nx st.1.1 st.1.2 (by simp) hE
theorem lst_drawsH {X : Cx} {pins : List (Addr × Obj)} {σ : L2.St} {H : Hp} {s : Shared} {x1 : Addr} (hot : HotAt X.A x1 s.heap) (I : L2.Inv X pins σ H s) {a it : Addr} {i : Nat} {xs : List V} (hn : H it = none) (hxi : x1 ≠ it) (w : s.heap.IsListIter it a i) (hx : H a = some (.lst xs)) :
    ∃ (fp : List Addr) (P : Nat → Value → Prop) (St : Nat → Heap → Prop), Draws X.prog X.w X.A.in1 it fp xs.length P St ∧ it ∈ fp ∧ (∀ b ∈ fp, b = it ∨ (∃ o, H b = some o) ∨ b = x1) ∧ St i s.heap ∧ (∀ j v, P j v → ∃ x, xs[j]? = some x ∧ RelV x v) ∧ (∀ j h, St j h → h.IsListIter it a j) := by
  obtain ⟨its, rv, pl, hz⟩ := I.list (SqL.of hx)
  have hne : a ≠ it := ne_of_none hx hn
  have D := draws_hot (prog := X.prog) (w := X.w) (A := X.A.in1) (x1 := x1) hot.1 it a hne hxi its.toArray
  rw [List.size_toArray, ← rv.length] at D
  refine ⟨_, _, _, D, by simp, fun b hb => ?_, ⟨⟨w, pl.isList⟩, hot⟩, fun j v e => ?_, fun j h st => st.1.1⟩
  · simp only [List.mem_cons, List.not_mem_nil, or_false] at hb
    rcases hb with e | e | e
    · exact .inl e
    · exact .inr (.inl ⟨_, by rw [e]; exact hx⟩)
    · exact .inr (.inr e)
  · have e' : its[j]? = some v := by simpa using e
    by_cases hj : j < xs.length
    · obtain ⟨u, hu, ru⟩ := rv.get (List.getElem?_eq_getElem hj)
      rw [e'] at hu; cases hu
      exact ⟨_, List.getElem?_eq_getElem hj, ru⟩
    · rw [List.getElem?_eq_none (by rw [← rv.length]; omega)] at e'; cases e'
/-- an iterator's turns while x1 is handled -/
structure TurnQ (P : Program) (w : World) (K : PySem.W.Frag) (tg : Expr) (J : It) (fp : List Addr) (z : Addr) (tn : Nat → Heap → Prop) : Prop where
  mem : z ∈ fp
  obj : ∀ i h, tn i h → ∀ b ∈ fp, ∃ o, h.get? b = some o ∧ ∀ v, o.data ≠ .cell v
  keep : ∀ i h h', tn i h → (∀ b ∈ fp, ∀ o, h.get? b = some o → h'.get? b = some o) → tn i h'
  go : ∀ (X : Cx), X.prog = P → X.w = w → X.K = K → ∀ (x1 : Addr) (i : Nat) (pins : List (Addr × Obj)) (s : Shared) (σ : L2.St) (H : Hp) (E : Value → Shared → Prop), HotAt X.A x1 s.heap → x1 ∉ fp → L2.Inv X pins σ H s → (∀ b ∈ fp, FpOk X pins H b) → tn i s.heap → J.go i H →
    wpAny (model P w) X.A (pyNext (.ref z)) (fun r s1 => ∃ u, r = some u ∧ wpAny (model P w) X.A (letOwnedTupleGo tg (.ref z) u) (fun _ s2 => ∃ x H', L2.Inv X pins σ H' s2 ∧ RelV x u ∧ J.yld i H x H' ∧ tn (i + 1) s2.heap ∧ ∀ b ∈ fp, H' b = none) E s1) E s
  no : ∀ (X : Cx), X.prog = P → X.w = w → X.K = K → ∀ (x1 : Addr) (i : Nat) (pins : List (Addr × Obj)) (s : Shared) (σ : L2.St) (H : Hp) (E : Value → Shared → Prop), HotAt X.A x1 s.heap → x1 ∉ fp → L2.Inv X pins σ H s → (∀ b ∈ fp, FpOk X pins H b) → tn i s.heap → J.stop i H →
    wpAny (model P w) X.A (pyNext (.ref z)) (fun r s1 => r = none ∧ L2.Inv X pins σ H s1) E s
  self : ∀ (A : Around) (i : Nat) (s : Shared) (Q : Value → Shared → Prop) (E : Value → Shared → Prop), tn i s.heap → Q (.ref z) s → wpAny (model P w) A (pyIter (.ref z)) Q E s
/-- zip of two lists, walked while something is handled -/
theorem turn_zipH {P : Program} {w : World} {K : PySem.W.Frag} {elts : List Expr} {kk : Nat} {tpos : Pos} (l1 l2 : Addr) {z TI TO i1 i2 : Addr} (D : [z, TI, TO, i1, i2].Nodup) :
    TurnQ P w K (.Tuple elts kk tpos) (Itw (.lst l1) (.lst l2)) [z, TI, TO, i1, i2] z (fun i h => IsZip h z TI TO .none ∧ IsTupOf2 h TI (.ref i1) (.ref i2) ∧ (∃ x y, IsTupOf2 h TO x y) ∧ h.IsListIter i1 l1 i ∧ h.IsListIter i2 l2 i) := by
  have hsep : ∀ {X : Cx} {pins : List (Addr × Obj)} {H : Hp} {x1 : Addr} {fp1 fp2 : List Addr}, x1 ∉ [z, TI, TO, i1, i2] → (∀ b ∈ [z, TI, TO, i1, i2], FpOk X pins H b) → i1 ∈ fp1 → i2 ∈ fp2 → (∀ b ∈ fp1, b = i1 ∨ (∃ o, H b = some o) ∨ b = x1) → (∀ b ∈ fp2, b = i2 ∨ (∃ o, H b = some o) ∨ b = x1) → ZipSep2 z TI TO i1 i2 fp1 fp2 := by
    intro X pins H x1 fp1 fp2 nx hf m1 m2 h1 h2
    simp only [List.nodup_cons, List.mem_cons, List.not_mem_nil, or_false, not_or, List.nodup_nil, and_true] at D
    obtain ⟨⟨d1, d2, d3, d4⟩, ⟨d5, d6, d7⟩, ⟨d8, d9⟩, d10⟩ := D
    have out : ∀ {b i : Addr} {fp : List Addr}, (∀ b ∈ fp, b = i ∨ (∃ o, H b = some o) ∨ b = x1) → b ∈ [z, TI, TO, i1, i2] → b ≠ i → b ∉ fp := fun h hb hne hm => by
      have f := hf _ hb
      rcases h _ hm with e | ⟨o, e⟩ | e
      · exact hne e
      · rw [f.1] at e; cases e
      · exact nx (by rw [← e]; exact hb)
    exact ⟨Ne.symm d1, Ne.symm d2, d5, d6, m1, out h1 (by simp) d3, out h1 (by simp) d8, d7, m2, out h2 (by simp) d4, out h2 (by simp) d9, out h2 (by simp) d10.1, out h1 (by simp) (Ne.symm d10.1)⟩
  exact {
    mem := by simp
    obj := fun i h st c hc => by
      obtain ⟨hz, hTI, ⟨x, y, hTO⟩, ⟨o1, g1, _, e1⟩, ⟨o2, g2, _, e2⟩⟩ := st
      have e' : c = z ∨ c = TI ∨ c = TO ∨ c = i1 ∨ c = i2 := by simpa using hc
      rcases e' with q | q | q | q | q
      · rw [q]; exact ⟨_, hz, fun v q => nomatch q⟩
      · rw [q]; exact ⟨_, hTI, fun v q => nomatch q⟩
      · rw [q]; exact ⟨_, hTO, fun v q => nomatch q⟩
      · rw [q]; exact ⟨o1, g1, fun v q => by rw [e1] at q; cases q⟩
      · rw [q]; exact ⟨o2, g2, fun v q => by rw [e2] at q; cases q⟩
    keep := fun i h h' st k => by
      obtain ⟨hz, hTI, ⟨x, y, hTO⟩, h1, h2⟩ := st
      exact ⟨k z (by simp) _ hz, k TI (by simp) _ hTI, ⟨x, y, k TO (by simp) _ hTO⟩, h1.at fun o q => k i1 (by simp) o q, h2.at fun o q => k i2 (by simp) o q⟩
    go := by
      rintro X rfl rfl rfl x1 i pins s σ H E hot nx I hf st ⟨xs, ys, hx, hy, hlt⟩
      obtain ⟨hz, hTI, hTO, h1, h2⟩ := st
      obtain ⟨fp1, P1, S1, D1, m1, c1, st1, p1, b1⟩ := lst_drawsH hot I (hf i1 (by simp)).1 (fun q => nx (by rw [q]; simp)) h1 hx
      obtain ⟨fp2, P2, S2, D2, m2, c2, st2, p2, b2⟩ := lst_drawsH hot I (hf i2 (by simp)).1 (fun q => nx (by rw [q]; simp)) h2 hy
      have S := hsep nx hf m1 m2 c1 c2
      refine (GoesN.zip2 (elts := elts) (x1 := kk) (pos := tpos) S D1 D2).goes i s _ E hlt ⟨hz, hTI, hTO, st1, st2⟩ fun v h' tk hY hS hk _ => ?_
      obtain ⟨T, x, y, rfl, hT, hPx, hPy, hTup⟩ := hY
      obtain ⟨x', ex, rx⟩ := p1 _ _ hPx
      obtain ⟨y', ey, ry⟩ := p2 _ _ hPy
      have hTn : H T = none := I.hok.fresh hT
      have I1 : L2.Inv X pins σ (upd H T (.tup [x', y'])) { s with heap := h', toks := tk } :=
        I.turnedNew (t' := tk) (ch := [z, TI, TO, i1, i2]) (fun c o hb q => hk c o (fun q' => hb (by simp at q' ⊢; rcases q' with q' | q' | q' | q' <;> simp [q'])) q) hf hT ⟨by show 2 ≤ sizeLine; decide, [x, y], .cons rx (.cons ry .nil), hTup⟩
      obtain ⟨g1, g2, g3, g4, g5⟩ := hS
      refine ⟨.ref T, _, I1, rfl, ⟨T, x', y', rfl, hTn, rfl, fun l hl => by rw [Wd.same hl hx]; exact ex, fun l hl => by rw [Wd.same hl hy]; exact ey⟩, ⟨g1, g2, g3, b1 _ _ g4, b2 _ _ g5⟩, fun c hcm => ?_⟩
      have hlt' : c < s.heap.objs.size := by
        have e' : c = z ∨ c = TI ∨ c = TO ∨ c = i1 ∨ c = i2 := by simpa using hcm
        rcases e' with q | q | q | q | q
        · rw [q]; exact Heap.lt_size hz
        · rw [q]; exact Heap.lt_size hTI
        · rw [q]; obtain ⟨_, _, e⟩ := hTO; exact Heap.lt_size e
        · rw [q]; obtain ⟨_, e, _⟩ := h1; exact Heap.lt_size e
        · rw [q]; obtain ⟨_, e, _⟩ := h2; exact Heap.lt_size e
      rw [upd_ne (Nat.ne_of_lt (Nat.lt_of_lt_of_le hlt' hT))]
      exact (hf c hcm).1
    no := by
      rintro X rfl rfl rfl x1 i pins s σ H E hot nx I hf st ⟨xs, ys, hx, hy, hlt⟩
      obtain ⟨hz, hTI, hTO, h1, h2⟩ := st
      obtain ⟨fp1, P1, S1, D1, m1, c1, st1, p1, b1⟩ := lst_drawsH hot I (hf i1 (by simp)).1 (fun q => nx (by rw [q]; simp)) h1 hx
      obtain ⟨fp2, P2, S2, D2, m2, c2, st2, p2, b2⟩ := lst_drawsH hot I (hf i2 (by simp)).1 (fun q => nx (by rw [q]; simp)) h2 hy
      have S := hsep nx hf m1 m2 c1 c2
      refine wpAny_mono ((GoesN.zip2 (elts := elts) (x1 := kk) (pos := tpos) S D1 D2).stops s (fun s1 => L2.Inv X pins σ H s1) E (by rw [← hlt]; exact ⟨hz, hTI, hTO, st1, st2⟩) fun h' tk hk _ => ?_) (fun r s1 q => q) fun _ _ e => e
      exact I.turnedL (t' := tk) (ch := [z, TI, TO, i1, i2]) (fun c o hb q => hk c o (fun q' => hb (by simp at q' ⊢; rcases q' with q' | q' | q' | q' <;> simp [q'])) q) hf
    self := fun A i s Q E st h => wpAny_pyIter_zip st.1 h }
/-- an iterable's walk while something is handled -/
structure PIQ (X : Cx) (tg iter : Expr) (wi : TI) : Prop where
  run : ∀ (pins : List (Addr × Obj)) (s : Shared) (σ : L2.St) (H : Hp) (R : It → Hp → Prop), L2.Inv X pins σ H s → wi σ H R →
    wpAny (model X.prog X.w) X.A (eval iter X.env) (fun v s1 => wpAny (model X.prog X.w) X.A (pyIter v) (fun itv s2 => ∃ (z : Addr) (fp : List Addr) (tn : Nat → Heap → Prop) (J : It) (H' : Hp), itv = .ref z ∧ L2.Inv X pins σ H' s2 ∧ TurnQ X.prog X.w X.K tg J fp z tn ∧ tn 0 s2.heap ∧ (∀ b ∈ fp, FpOk X pins H' b) ∧ R J H') X.xe s1) X.xe s
def iZipH (ta : TA) : TI := fun σ H R => ta σ H fun vs H1 => ∃ a b xs ys, vs = [.ref a, .ref b] ∧ H1 a = some (.lst xs) ∧ H1 b = some (.lst ys) ∧ R (Itw (.lst a) (.lst b)) H1
theorem pi_zipH {X : Cx} {e e2 : Expr} {ta : TA} {p pos tpos : Pos} {elts : List Expr} {kk : Nat} (hg : Gl X "zip") (hm : X.mg "zip" = none) (ha : PA X [e, e2] ta)
    (hs : starEach [e, e2] X.env = (false, eval e X.env) :: starEach [e2] X.env := by rfl) (hpl : (backTo pos (starEach [e2] X.env)).any (·.1) = false := by rfl) :
    PIQ X (.Tuple elts kk tpos) (.Call (.Name "zip" p) [e, e2] [] pos) (iZipH ta) := by
  refine ⟨fun pins s σ H R I h => ?_⟩
  refine Call_ (ld_blt I hg hm PyProof.Rows.boot_zip (PyProof.Rows.callWith_type1 (thn (ha.run pos pins s σ H _ I h) fun us s1 ⟨vs, H1, I1, r1, q1⟩ => ?_) hs hpl))
  obtain ⟨a, b, xs, ys, rfl, hx, hy, q⟩ := q1
  obtain ⟨u1, u2, rfl, r1, r2⟩ := Vals.two r1
  cases (show u1 = Value.ref a from r1)
  cases (show u2 = Value.ref b from r2)
  obtain ⟨it1, rv1, pl1, hz1⟩ := I1.list (SqL.of hx)
  obtain ⟨it2, rv2, pl2, hz2⟩ := I1.list (SqL.of hy)
  refine zip_begins2 (begins_list a it1.toArray) (begins_list b it2.toArray) pl1.isList pl2.isList fun h' hz hTI hTO h1 h2 hsz hk => wpAny_pyIter_zip hz ?_
  have I2 : L2.Inv X pins σ H1 { s1 with heap := h' } := I1.kept (t' := s1.toks) hk
  refine ⟨s1.heap.objs.size + 4, [s1.heap.objs.size + 4, s1.heap.objs.size + 2, s1.heap.objs.size + 3, s1.heap.objs.size, s1.heap.objs.size + 1], _, _, H1, rfl, I2, turn_zipH a b (by simp), ⟨hz, hTI, ⟨_, _, hTO⟩, ⟨_, h1, rfl, rfl⟩, ⟨_, h2, rfl, rfl⟩⟩, fun c hcm => ?_, q⟩
  have hle : s1.heap.objs.size ≤ c := by
    simp only [List.mem_cons, List.not_mem_nil, or_false] at hcm
    rcases hcm with z | z | z | z | z <;> (rw [z]; first | exact Nat.le_add_right _ _ | exact Nat.le_refl _)
  exact I1.fpOk hle (I1.hok.fresh hle)
/-- what is handled stands as it stood at the context's entry -/
def HotB (Y : Cx) : Prop := ∃ (x1 : Addr) (o : Obj) (vs : Array Value), Y.A.handled = some (.ref x1) ∧ Y.s_0.heap.get? x1 = some o ∧ Y.H_0 x1 = none ∧ x1 ∉ Y.fs ∧ x1 ∉ Y.ex ∧ o.data = .fields vs ∧ vs[2]? = some .none
theorem HotB.at {Y : Cx} {pins : List (Addr × Obj)} {σ : L2.St} {H : Hp} {s : Shared} (h : HotB Y) (I : L2.Inv Y pins σ H s) : ∃ x1, HotX.HotAt Y.A x1 s.heap := by
  obtain ⟨x1, o, vs, h1, h2, h3, h4, h5, h6, h7⟩ := h
  exact ⟨x1, h1, o, vs, I.base.keep x1 o h2 h3 h4 h5, h6, h7⟩
theorem next_tuple_end_hot {prog : Program} {w : World} {A : Around} {E : Value → Shared → Prop} {s : Shared} {it t x1 : Addr} {i : Nat} {items : Array Value} {Q : Option Value → Shared → Prop} (hot : HotX.HotAt A x1 s.heap)
    (hit : IsTupIter s.heap it t i) (ht : IsTup s.heap t items) (hx : items[i]? = none) (hne : x1 ≠ it)
    (hQ : ∀ h', Heap.ExtBut it s.heap h' → Q none { s with heap := h' }) : wpAny (model prog w) A (pyNext (.ref it)) Q E s := by
  obtain ⟨o, ho, hc, hd⟩ := id hit
  obtain ⟨ol, hol, _, nl, hdl⟩ := ht
  obtain ⟨hh, o1, vs1, h1, d1, c1⟩ := hot
  unfold pyNext
  refine wpAny_bind (wpAny_attempt (wpAny_callSpecial?_slot (name := Str.ofString "__next__") hit.typeIs slot_tupleiter_next
    (wpAny_call_entry slot_tupleiter_next hit.typeIs entry_tupleiter_next ?_ (args_tupleiter_next _))))
  show wpAny _ _ (field (.ref it) 0 >>= _) _ _ s
  refine wpAny_bind (wpAny_field ho hd (x := .ref t) rfl ?_)
  show wpAny _ _ (if (Value.ref t == Value.none) = true then _ else _) _ _ s
  rw [if_neg (show ¬ ((Value.ref t == Value.none) = true) from Bool.false_ne_true)]
  show wpAny _ _ (field (.ref it) 1 >>= _) _ _ s
  refine wpAny_bind (wpAny_field ho hd (x := .int i 0) rfl ?_)
  show wpAny _ _ (seqItems? (.ref t) >>= _) _ _ s
  refine wpAny_bind (wpAny_seqItems hol hdl ?_)
  simp only [Int.toNat_natCast, hx]
  refine wpAny_bind (wpAny_rule (wpAny_bind (wpAny_setField ho hd (by simp) ?_)))
  show wpAny _ _ (newExc (.type "StopIteration") [] >>= _) _ _ _
  refine wpAny_bind ?_
  simp only [newExc, newTuple]
  refine wpAny_bind (wpAny_newObj_type ?_ (by size_fits))
  refine wpAny_bind (m := firstArgMember _ _) (wpAny_of_eq (a := Value.none) (by first | rfl | (simp only [firstArgMember]; rfl)) ?_)
  refine wpAny_newObj_type ?_ (by size_fits)
  have h1' := (Heap.get?_update_other s.heap (Obj.mapFields (·.setIfInBounds 0 Value.none)) (Ne.symm hne)).trans h1
  refine HotX.raiseNew_hot ⟨hh, o1, vs1, Heap.get?_push_of_some _ (Heap.get?_push_of_some _ h1'), d1, c1⟩ (Nat.ne_of_lt (Heap.lt_size (Heap.get?_push_of_some _ h1'))) (Heap.get?_push_size _ rfl) rfl (by first | (simp; done) | (simp; omega)) ?_
  refine wpAny_bind (wpAny_isInstance (T := "StopIteration") (b := true) ⟨_, Heap.get?_update_self _ (Heap.get?_push_size _ rfl) rfl, rfl⟩ isSubtype_stop ?_)
  refine wpAny_pure (hQ _ fun b o hb e => ?_)
  have e1 := (Heap.get?_update_other s.heap (Obj.mapFields (·.setIfInBounds 0 Value.none)) (Ne.symm hb)).trans e
  rw [Heap.get?_update_other _ _ (Nat.ne_of_gt (Heap.lt_size (Heap.get?_push_of_some _ e1)))]
  exact Heap.get?_push_of_some _ (Heap.get?_push_of_some _ e1)
theorem unpackItems_tuple_hot {prog : Program} {w : World} {A : Around} {E : Value → Shared → Prop} {s : Shared} {t x1 : Addr} {items : Array Value} {Q : List Value → Shared → Prop} (hot : HotX.HotAt A x1 s.heap) (ht : IsTup s.heap t items)
    (hQ : ∀ h', Heap.ExtBut s.heap.objs.size s.heap h' → Q items.toList { s with heap := h' }) : wpAny (model prog w) A (unpackItems (.ref t) items.size none) Q E s := by
  have hlt : t ≠ s.heap.objs.size := by obtain ⟨o, ho, _⟩ := ht; exact Nat.ne_of_lt (Heap.lt_size ho)
  obtain ⟨hh, o1, vs1, h1, d1, c1⟩ := hot
  have hx : x1 ≠ s.heap.objs.size := Nat.ne_of_lt (Heap.lt_size h1)
  unfold unpackItems
  refine wpAny_bind ?_
  · unfold notIterableAtAll
    refine wpAny_bind (wpAny_specialOf ht.typeIs slot_tuple_iter.lookup ?_)
    refine wpAny_pure ?_
    simp only [Bool.false_eq_true, if_false]
    refine wpAny_bind (wpAny_holding (iter_tuple ht ?_))
    refine wpAny_bind (wpAny_holding (draw_tuple hlt items.size 0 _ _ ⟨_, Heap.get?_push_size _ rfl, rfl, rfl⟩ (ht.push _) (by omega) fun h₁ hit₁ hs₁ => ?_))
    have hall : List.take items.size (List.drop 0 items.toList) = items.toList := by
      rw [List.drop_zero]; exact List.take_of_length_le (by simp)
    rw [hall]
    rw [if_neg (by simp)]
    have ht₁ : IsTup h₁ t items := (ht.push _).extBut hs₁.extBut hlt
    refine wpAny_bind (wpAny_holding (next_tuple_end_hot ⟨hh, o1, vs1, hs₁.extBut x1 o1 hx (Heap.get?_push_of_some _ h1), d1, c1⟩ hit₁ ht₁ (by simp) hx fun h₂ he₂ => ?_))
    simp only [Option.isSome_none, Bool.false_eq_true, if_false]
    refine wpAny_pure (hQ h₂ fun b o hb e => he₂ b o hb (hs₁.extBut b o hb (Heap.get?_push_of_some _ e)))
theorem pg_tupH {X : Cx} {es : List Expr} {k : Nat} {t : TGs} {n : Nat} {pos : Pos} (hot : HotB X) (h : PGs X es t)
    (hn : (assignEach es X.env).length = n := by rfl) (hst : (assignEach es X.env).findIdx? (·.1) = none := by rfl) : PG X (.Tuple es k pos) (gTup X.K n t) := by
  refine ⟨fun pins s σ H v u Q I r hw => ?_⟩
  obtain ⟨a, xs, e1, hq, hl, hw⟩ := hw
  subst e1
  cases r
  obtain ⟨its, rv, ht, hz⟩ := I.tuple hq
  obtain ⟨x1, hat⟩ := hot.at I
  have hlen : (assignEach es X.env).length = its.toArray.size := by rw [hn, ← hl, rv.length, List.size_toArray]
  rw [assign_Tuple]
  refine wpAny_bind (wpAny_standAt ?_)
  unfold unpack
  rw [hlen, hst]
  refine wpAny_bind (wpAny_holding (unpackItems_tuple_hot hat ht fun h' hx => ?_))
  have I1 : L2.Inv X pins σ H { s with heap := h' } := I.kept (t' := s.toks) fun b o e => hx b o (Nat.ne_of_lt (Heap.lt_size e)) e
  exact h.run pins _ σ H xs _ Q I1 (by simpa using rv) hw
theorem dg_tupH {X : Cx} {es : List Expr} {gs : List DTG} {k : Nat} {S : List Nat} {pos : Pos} (hot : HotB X) (hgo : ∀ g ∈ gs, Goes g) (h : DGs X S es gs) (hn : (assignEach es X.env).length = gs.length := by rfl) (hst : (assignEach es X.env).findIdx? (·.1) = none := by rfl) : DG X S (.Tuple es k pos) (gT gs) :=
  wkG (pg_tupH (n := gs.length) hot h hn hst) fun v σ H Q ⟨Z, ρ, M, d, Qd, a, r, h, k⟩ => by
    cases r with
    | tup hz rs => exact ⟨_, _, rfl, SqT.of (a.zh _ _ hz), by rw [rs.length]; exact gSeq_len h hgo, Z, ρ, M, _, Qd, a, rs, h, k⟩
    | _ => exact h.elim
/-- [elt for tg in iter if ..] while x1 = p.1 is handled -/
theorem pe_lcQ {X : Cx} {elt tg iter : Expr} {ifs : List Expr} {scope : Scope} {own : List (Str × Nat)} {pos : Pos} {wi : TI} {g : TG} {tt : TT} {te : TE} (hot : L2H.HotC X) (hN : X.N.Nodup) (hi : PIQ X tg iter wi) (ok : BlkOk X.N X.env.scope scope own)
    (hg : ∀ (s : Shared) (H : Hp) (C : Addr) (cl : List (Str × Addr)) (fp : List Addr), HotB (X.blk s H scope (compEnvC scope cl C X.env) fp) → PG (X.blk s H scope (compEnvC scope cl C X.env) fp) tg g)
    (ht : ∀ (s : Shared) (H : Hp) (C : Addr) (cl : List (Str × Addr)) (fp : List Addr), PTs (X.blk s H scope (compEnvC scope cl C X.env) fp) ifs tt)
    (he : ∀ (s : Shared) (H : Hp) (C : Addr) (cl : List (Str × Addr)) (fp : List Addr), PE (X.blk s H scope (compEnvC scope cl C X.env) fp) elt te) (hs : ∀ x, foldedSetIterable iter X.env x = pure x := by intro _; rfl) :
    PE X (.ListComp elt [⟨tg, iter, ifs, 0⟩] scope pos) (tLc wi g tt te (own.map (·.2))) := by
  refine ⟨fun pins s σ H Q I h => ?_⟩
  obtain ⟨px, ⟨hh, vx, dx, cx⟩, hpx⟩ := hot
  have hpx' : px ∈ X.pn ++ pins := List.mem_append_left _ hpx
  have hcl : ∀ y ∈ scope.names, y.2 = .free → ∃ c, X.env.cells.lookup y.1 = some c := fun y hy e => I.ok.has _ (ok.free y hy e)
  rw [eval_ListComp]
  refine wpAny_comprehension_free (use := none) rfl hs (closure_ok hcl) ok.kind (fun y hy e => by rw [ok.uniq y hy, e]) (thn (hi.run pins s σ H _ I h) fun xv s1 hx => thn hx fun itv s2 h2 => ?_)
  obtain ⟨z, fp, tn, J, H2, rfl, I2, T, st2, f2, q⟩ := h2
  refine wpAny_newObj_type (newEnv_comp ?_) (by show 0 ≤ sizeLine; decide)
  have nD : H2 s2.heap.objs.size = none := I2.hok.fresh (Nat.le_refl _)
  obtain ⟨W, ⟨m0, w0⟩, turn⟩ := q _ nD
  generalize hs3 : ({ s2 with heap := s2.heap.push { cls := .type "list", data := .seq ([] : List Value).toArray } } : Shared) = s3
  have hp3 : s3.heap = s2.heap.push { cls := .type "list", data := .seq ([] : List Value).toArray } := by rw [← hs3]
  have I3 : L2.Inv X pins σ (upd H2 s2.heap.objs.size (.lst [])) s3 := by
    rw [← hs3]
    exact I2.laid (t' := s2.toks) (fun b o e => Heap.get?_push_of_some _ e) (Nat.le_refl _) ⟨Nat.zero_le _, [], 0, .nil, Heap.get?_push_size _ rfl⟩
  have lt2 : ∀ b ∈ fp, b < s2.heap.objs.size := fun b hb => by obtain ⟨o, e, _⟩ := T.obj _ _ st2 b hb; exact Heap.lt_size e
  have f3 : ∀ b ∈ fp, FpOk X pins (upd H2 s2.heap.objs.size (.lst [])) b ∧ b < s3.heap.objs.size := fun b hb =>
    ⟨⟨by rw [upd_ne (Nat.ne_of_lt (lt2 b hb))]; exact (f2 b hb).1, (f2 b hb).2⟩, by rw [hp3, Heap.size_push]; exact Nat.lt_succ_of_lt (lt2 b hb)⟩
  have st3 : tn 0 s3.heap := T.keep _ _ _ st2 fun b _ o e => by rw [hp3]; exact Heap.get?_push_of_some _ e
  have B := block_start I3 ok hN f3
  have pt := ht s3 (upd H2 s2.heap.objs.size (.lst [])) s3.heap.objs.size (cellsFrom (s3.heap.objs.size + 1) scope.names (cloFrom X.env.cells scope.names [])) fp
  have pe := he s3 (upd H2 s2.heap.objs.size (.lst [])) s3.heap.objs.size (cellsFrom (s3.heap.objs.size + 1) scope.names (cloFrom X.env.cells scope.names [])) fp
  have pin3 := I3.pin px hpx'
  have nx : px.1 ∉ fp := fun hb => (f2 _ hb).2.2.2.2.2 px hpx' rfl
  have nstk : px.1 ∉ frs X.stack := fun hm => by
    rcases I3.ok.stk with e | ⟨e, fr⟩
    · rw [e] at hm; exact pin3.2.2.2.1 hm
    · rw [e] at hm
      unfold frs at hm
      rw [List.filterMap_cons_some fr] at hm
      rcases List.mem_cons.mp hm with z | z
      · exact pin3.2.2.1 z
      · exact pin3.2.2.2.1 z
  have pg := hg s3 (upd H2 s2.heap.objs.size (.lst [])) s3.heap.objs.size (cellsFrom (s3.heap.objs.size + 1) scope.names (cloFrom X.env.cells scope.names [])) fp ⟨px.1, px.2, vx, hh, pin3.1, pin3.2.1, nstk, nx, dx, cx⟩
  show codeAny (model X.prog X.w) X.A (.compStart (.ListComp elt [⟨tg, iter, ifs, 0⟩] scope pos) 0 (.ref z) (.ref s2.heap.objs.size) (compEnvC scope (cellsFrom (s3.heap.objs.size + 1) scope.names (cloFrom X.env.cells scope.names [])) s3.heap.objs.size X.env)) _ { s3 with heap := pushCells (s3.heap.push { cls := .type "dict", data := .dict #[] }) scope.names }
  have nfp : ∀ b ∈ fp, (upd H2 s2.heap.objs.size (.lst [])) b = none := fun b hb => (f3 b hb).1.1
  have hloc : ∀ (C : Addr) (cl : List (Str × Addr)), (compEnvC scope cl C X.env).locals = C := fun _ _ => rfl
  have cL := hloc s3.heap.objs.size (cellsFrom (s3.heap.objs.size + 1) scope.names (cloFrom X.env.cells scope.names []))
  generalize compEnvC scope (cellsFrom (s3.heap.objs.size + 1) scope.names (cloFrom X.env.cells scope.names [])) s3.heap.objs.size X.env = ce at B pg pt pe cL ⊢
  generalize hH3 : upd H2 s2.heap.objs.size (.lst []) = H3 at I3 B pg pt pe w0 nfp f3 pin3
  have stays : ∀ {pn' : List (Addr × Obj)} {σ' : L2.St} {H' : Hp} {s' : Shared}, L2.Inv (X.blk s3 H3 scope ce fp) pn' σ' H' s' → HotAt X.A px.1 s'.heap := fun J =>
    ⟨hh, px.2, vx, J.base.keep px.1 px.2 pin3.1 pin3.2.1 nstk nx, dx, cx⟩
  have stat : ∀ {σ' : L2.St} {H' : Hp} {s' : Shared}, L2.Inv (X.blk s3 H3 scope ce fp) [] σ' H' s' → (∀ b ∈ fp, H' b = none) → ∀ b ∈ fp, FpOk (X.blk s3 H3 scope ce fp) [] H' b := fun J hn b hb =>
    ⟨hn b hb, (J.ok.exf b hb).1, J.ok.exfs b hb, .inl hb, (J.ok.exf b hb).2, fun p hp => absurd (show p ∈ ([] : List (Addr × Obj)) ++ [] from hp) (by simp)⟩
  generalize hs4 : ({ s3 with heap := pushCells (s3.heap.push { cls := .type "dict", data := .dict #[] }) scope.names } : Shared) = s4 at B ⊢
  have st4 : tn 0 s4.heap := T.keep _ _ _ st3 fun b _ o e => by rw [← hs4]; exact pushCells_keeps _ _ _ _ (Heap.get?_push_of_some _ e)
  suffices loop : codeAny (model X.prog X.w) X.A (.compLoop (.ListComp elt [⟨tg, iter, ifs, 0⟩] scope pos) 0 (.ref z) (.ref s2.heap.objs.size) ce) _ s4 from codeAny_compStart_list loop (T.self X.A 0 _ _ _ st4 loop)
  refine compLoop_any (fun n s' => ∃ i H', L2.Inv (X.blk s3 H3 scope ce fp) [] (wipe σ (own.map (·.2))) H' s' ∧ tn i s'.heap ∧ (∀ b ∈ fp, H' b = none) ∧ W i n H') ?_ m0 ⟨0, H3, B, st4, nfp, w0⟩
  rintro n s5 ⟨i, H5, I5, st5, n5, w5⟩
  rcases turn i n H5 w5 with ⟨stop, qq⟩ | ⟨go, Nx, hNx, step⟩
  · refine thnF (T.no (X.blk s3 H3 scope ce fp) rfl rfl rfl px.1 i [] s5 _ H5 (fun _ _ => False) (stays I5) nx I5 (stat I5 n5) st5 stop) fun r s6 ⟨hr, I6⟩ => ?_
    subst hr
    have out : L2.Inv X pins σ H5 s6 := I3.call' (ch := fp) I6.os I6.base I6.hok I6.bare fun b hb => by
      obtain ⟨_, a1, _, a2, a3, a4⟩ := (f3 b hb).1
      exact ⟨a2, a1, a3, a4⟩
    have nC : H5 s3.heap.objs.size = none := by rw [← cL]; exact I6.free
    obtain ⟨mm, hn, _⟩ := I6.loc
    have hn' : s6.heap.Ns s3.heap.objs.size mm := by rw [← cL]; exact hn
    refine ⟨mm, hn', fun h2 sb => ?_⟩
    obtain ⟨k0, k1, k2, k3, k4, k5⟩ := I3.fpOk (Nat.le_refl _) nC
    exact ⟨.ref _, H5, out.turned (t' := s6.toks) (fun b o hb e => (sb.2 b hb).trans e) k0 k1 k3 k4 k5, rfl, qq⟩
  · refine thnF (T.go (X.blk s3 H3 scope ce fp) rfl rfl rfl px.1 i [] s5 _ H5 (fun _ _ => False) (stays I5) nx I5 (stat I5 n5) st5 go) fun r s6 ⟨u, hr, h6⟩ => ?_
    subst hr
    refine thnF h6 fun _ s7 ⟨x, H7, I7, r7, y7, st7, n7⟩ => ?_
    have J7 := I7.pinned (stat I7 n7) (T.obj _ _ st7)
    refine thnF (pg.run _ s7 _ H7 x u _ J7 r7 (step x H7 y7)) fun _ s8 ⟨σ8, H8, I8, hw, q8⟩ => ?_
    refine thnF (pt.run _ s8 σ8 H8 _ I8 q8) fun bb s9 ⟨H9, I9, q9⟩ => ?_
    have fin : ∀ {s' : Shared} {H' : Hp}, L2.Inv (X.blk s3 H3 scope ce fp) ([] ++ pinsAt fp s7.heap) σ8 H' s' → Nx H' → ∃ m, m < n ∧ ∃ i H', L2.Inv (X.blk s3 H3 scope ce fp) [] (wipe σ (own.map (·.2))) H' s' ∧ tn i s'.heap ∧ (∀ b ∈ fp, H' b = none) ∧ W i m H' := fun {s' H'} J nxt => by
      obtain ⟨m', hm, w'⟩ := hNx H' nxt
      have pn : ∀ b ∈ fp, ∀ o, s7.heap.get? b = some o → s'.heap.get? b = some o ∧ H' b = none := fun b hb o e => by
        have v := J.pin (b, o) (List.mem_append_right _ (List.mem_append_right _ (mem_pinsAt hb e)))
        exact ⟨v.1, v.2.1⟩
      refine ⟨m', hm, i + 1, H', (J.unpinned (pins := [])).weak (by rw [← hw, wipe_length]) (fun j v e => ?_), T.keep _ _ _ st7 fun b hb o e => (pn b hb o e).1, fun b hb => ?_, w'⟩
      · rw [← hw] at e; exact (wipe_some e).1
      · obtain ⟨o, e, _⟩ := T.obj _ _ st7 b hb
        exact (pn b hb o e).2
    cases bb with
    | false =>
      simp only [Bool.false_eq_true, if_false] at q9 ⊢
      exact fin I9 q9
    | true =>
      simp only [if_true] at q9 ⊢
      refine thnF (pe.run _ s9 σ8 H9 _ I9 q9) fun e s10 ⟨yv, H10, I10, r10, acc, hD, hz, nxt⟩ => ?_
      exact app_ok (X := X.blk s3 H3 scope ce fp) I10 hD hz r10 fun s11 I11 => fin I11 nxt
theorem PIQ.weak {X : Cx} {tg iter : Expr} {wi wi' : TI} (h : PIQ X tg iter wi) (k : ∀ σ H R, wi' σ H R → wi σ H R) : PIQ X tg iter wi' := ⟨fun pins s σ H R I q => h.run pins s σ H R I (k σ H R q)⟩
/-- zip of two lists -/
def dZipL (a b : DTE) : DTA := fun ρ M Q R => a ρ M (fun x M1 => b ρ M1 (fun y M2 => ∃ xs ys, x = .lst xs ∧ y = .lst ys ∧ Q (zipD xs ys) M2) R) R
theorem dq_zip {X : Cx} {W : WX} {a b : Expr} {Ta Tb : DTE} {p pos tpos : Pos} {elts : List Expr} {kk : Nat} (hm : X.mg "zip" = none) (ha : DE X W a Ta) (hb : DE X W b Tb) (hg : Gl X "zip" := by rfl)
    (hs : starEach [a, b] X.env = (false, eval a X.env) :: starEach [b] X.env := by rfl) (hs2 : starEach [b] X.env = (false, eval b X.env) :: starEach [] X.env := by rfl) (hpl : (backTo pos (starEach [b] X.env)).any (·.1) = false := by rfl) :
    PIQ X (.Tuple elts kk tpos) (.Call (.Name "zip" p) [a, b] [] pos) (lI X.K W (dZipL Ta Tb)) :=
  (pi_zipH hg hm (pa_cons ha (pa_cons hb pa_nil hs2) hs) hs hpl).weak fun σ H R ⟨Z, ρ, M, Qd, Rd, G, h⟩ => G.seq (rel1 := Rep X.K) h fun Z1 H1 M1 v x G1 _ rx h1 => G1.seq (rel1 := Rep X.K) h1 fun Z2 H2 M2 w y G2 e2 ry h2 => by
    obtain ⟨xs, ys, rfl, rfl, q⟩ := h2
    cases rx with
    | lst hz rl =>
      cases ry with
      | lst hz2 rl2 =>
        exact ⟨_, _, _, _, rfl, G2.at_.zh _ _ (e2 _ _ hz), G2.at_.zh _ _ hz2, G2.val (rel := fun Z J ds => Walk X.K Z J ds) (walk_zip (.inl ⟨_, rfl, .inl ⟨e2 _ _ hz, rfl⟩⟩) (.inl ⟨_, rfl, .inl ⟨hz2, rfl⟩⟩) (rl.mono e2) rl2 0 0) q⟩
/-- a comprehension while something is handled -/
theorem dq_lc {X : Cx} {W : WX} {S : List Nat} {elt tg iter : Expr} {ifs : List Expr} {scope : Scope} {own : List (Str × Nat)} {pos : Pos} {TA : DTA} {g : DTG} {tt : DTT} {te : DTE} (hot : L2H.HotC X) (hN : X.N.Nodup) (hi : PIQ X tg iter (lI X.K W TA)) (ok : BlkOk X.N X.env.scope scope own) (hS : ∀ i ∈ S, i ∈ own.map (·.2))
    (hg : ∀ (s : Shared) (H : Hp) (C : Addr) (cl : List (Str × Addr)) (fp : List Addr), HotB (X.blk s H scope (compEnvC scope cl C X.env) fp) → DG (X.blk s H scope (compEnvC scope cl C X.env) fp) S tg g)
    (ht : ∀ (s : Shared) (H : Hp) (C : Addr) (cl : List (Str × Addr)) (fp : List Addr), PTs (X.blk s H scope (compEnvC scope cl C X.env) fp) ifs (lT X.K W0 tt))
    (he : ∀ (s : Shared) (H : Hp) (C : Addr) (cl : List (Str × Addr)) (fp : List Addr), DE (X.blk s H scope (compEnvC scope cl C X.env) fp) W0 elt te) (hs : ∀ x, foldedSetIterable iter X.env x = pure x := by intro _; rfl) :
    DE X W (.ListComp elt [⟨tg, iter, ifs, 0⟩] scope pos) (dLc (own.map (·.2)) TA g tt te) :=
  wkE (pe_lcQ hot hN hi ok hg ht he hs) fun σ H Q h => lc_ok hS h
end Dl
namespace Dl
open PySem PySem.Spec PyProof.Rows L2
/-! # The words of a caught error; a lambda called within a try -/
/-- isinstance of an error whose object is pinned -/
theorem call_isP {X : Cx} {a D : Addr} {oe : Obj} (C : ExcC X.K D) (hp : (a, oe) ∈ X.pn) (hz : Zc (.ref D) none oe) (hf : ∃ vs, oe.data = .fields vs) : CallR X (.builtin "isinstance") (rIsE X.K D a) := by
  intro pins s σ H xs us Q I r h1
  obtain ⟨c, cv, b, rfl, hcv, e, q⟩ := h1
  obtain ⟨u, w, rfl, r1, r2⟩ := Vals.two r
  obtain rfl : u = Value.ref a := r1
  obtain rfl := hcv _ r2
  obtain ⟨vs, hv⟩ := hf
  have hget := (I.pin (a, oe) (List.mem_append_left _ hp)).1
  have J : PySem.W.InstAt s.heap a oe D none := by
    obtain ⟨oc, od, oda, osl⟩ := oe
    obtain ⟨z1, z2⟩ := hz
    dsimp only at z1 z2 hv
    subst z1 z2 hv
    exact ⟨hget, rfl, rfl, trivial⟩
  exact PySem.W.kia_one (PySem.W.handS_kitx_exc C.hg C.hk C.hs C.hd C.ha C.hn C.ht C.hm) I.kIn J e (fun z => nomatch z) fun tk => ⟨.bl b, H, I.kept (t' := tk) fun _ _ z => z, rfl, q⟩
theorem de_errIs {X : Cx} {W : WX} {e e2 : Expr} {p pos : Pos} {a D : Addr} {oe : Obj} {i : Nat} {b : Bool} {cv : V} {cu : Value} (C : ExcC X.K D) (hp : (a, oe) ∈ X.pn) (hz : Zc (.ref D) none oe) (hf : ∃ vs, oe.data = .fields vs) (hm : X.mg "isinstance" = none)
    (he : DE X W e (dVar i)) (hc : PE X e2 (tC cv)) (hcv : ∀ u, RelV cv u → u = cu) (hk : PySem.W.kitOne X.K (.ref D) cu = some b) (hg : Gl X "isinstance" := by rfl)
    (hs : starEach [e, e2] X.env = (false, eval e X.env) :: starEach [e2] X.env := by rfl) (hs2 : starEach [e2] X.env = (false, eval e2 X.env) :: starEach [] X.env := by rfl) (hpl : (backTo pos (starEach [e2] X.env)).any (·.1) = false := by rfl) :
    DE X W (.Call (.Name "isinstance" p) [e, e2] [] pos) (dErrIs i a b) :=
  wkE (pe_callB (call_isP C hp hz hf) hg hm (by decide +kernel) (pa_cons he (pa_cons hc pa_nil hs2) hs) (by decide) (by decide) hs hpl) fun σ H Q h => errIs_fin (v := .non) he hcv hk σ H Q h
/-- isinstance(x, C), C an own class: b as kitOne tells it -/
theorem de_errIsC {X : Cx} {W : WX} {x n : Str} {p p1 p2 pos : Pos} {a D : Addr} {oe : Obj} {i : Nat} {b : Bool} (C : ExcC X.K D) (hp : (a, oe) ∈ X.pn) (hz : Zc (.ref D) none oe) (hf : ∃ vs, oe.data = .fields vs) (hm : X.mg "isinstance" = none)
    (he : DE X W (.Name n p1) (dVar i)) (g : X.mg x = some (.ref (He.ga X.K x))) (hk : PySem.W.kitOne X.K (.ref D) (.ref (He.ga X.K x)) = some b) (hg : Gl X "isinstance" := by rfl) (hgx : Gl X x := by rfl) (hd : (x == ("__debug__" : Str)) = false := by decide) :
    DE X W (.Call (.Name "isinstance" p) [.Name n p1, .Name x p2] [] pos) (dErrIs i a b) :=
  de_errIs C hp hz hf hm he (pe_glob hgx g (v := .ref (He.ga X.K x)) rfl hd) (fun u r => r) hk hg
theorem de_errIsV {X : Cx} {W : WX} {T : String} {n x : Str} {p p1 p2 pos : Pos} {a D : Addr} {oe : Obj} {i : Nat} {b : Bool} (C : ExcC X.K D) (hp : (a, oe) ∈ X.pn) (hz : Zc (.ref D) none oe) (hf : ∃ vs, oe.data = .fields vs) (hm : X.mg "isinstance" = none)
    (he : DE X W (.Name n p1) (dVar i)) (hm2 : X.mg x = none) (hv : bootBuiltins x = some (.type T)) (hk : PySem.W.kitOne X.K (.ref D) (.type T) = some b) (hg : Gl X "isinstance" := by rfl) (hg2 : Gl X x := by rfl)
    (hn : x ≠ "__name__" := by decide) (hd : (x == ("__debug__" : Str)) = false := by decide) :
    DE X W (.Call (.Name "isinstance" p) [.Name n p1, .Name x p2] [] pos) (dErrIs i a b) :=
  de_errIs C hp hz hf hm he (pe_bltn hg2 hm2 hv (v := .ty T) rfl hn hd) (fun u r => r) hk hg
/-! ### a def called with the handled error -/
theorem run_errH {CX : CXT} {P : Program} {w : World} {K : PySem.W.Frag} {mg : Str → Option Value} {base : Heap} {k : Nat} {f : Addr} {x qual : Str} {params : Arguments} {body : List Stmt} {scope : Scope} {fd : FuncData} {N ps : List Str} (F : FunD K x qual params body scope [] [] f fd) (S : FnScope N ps scope) (hbn : L2.Binds K fd ps [])
    {A : Around} {outer : List PySem.Env} {s : Shared} {H : Hp} {us : List Value} {vs : List V} {Q : VK} {E : XK} {p : Addr × Obj} (hr : L2H.RoomH (k + 1) A) (hpin : L2H.PinOk outer H s p) (e0 : Env0 P w K mg base A outer s H) (r : Vals vs us) (hl : vs.length = ps.length)
    (hbody : ∀ cdv : Value, L2H.RoomH k (A.deeper (envOfC qual scope s.heap.objs.size f cdv)) → ∃ t, PSs (L2H.cxH CX P w K mg base N qual scope f cdv A outer s H E p) body t ∧ t { nx := fun _ H' => Q .non H', rt := Q } (L2.start N vs) H) :
    codeAny (model P w) A (.call (.ref f) ⟨us, []⟩) (CR CX outer P w H s Q E) s := by
  obtain ⟨oc, od, dV, kV, doc, pm, an, cdv, ct, osl, rfl, lk, hcd, _, _⟩ := F.ex
  have KX : K.In s.heap := e0.mod.kin.keeps fun b o e => (e0.bs b o e).1
  have lim : s.heap.NoLimit := e0.mod.nolimit.keeps fun b o e => (e0.bs b o e).1
  have hb := hbn s us KX (by rw [List.append_nil]; exact r.length.symm.trans hl)
  rw [List.append_nil] at hb
  have hkind : ∀ y ∈ ps.zip us, scope.names.lookup y.1 = some .local ∨ (scope.names.lookup y.1 = some .cell ∧ ((cellsFrom (s.heap.objs.size + 1) scope.names []).lookup y.1).isSome = true) := fun ⟨n, v⟩ hy => by
    rcases S.par n (List.of_mem_zip hy).1 with q | q
    · exact .inl q
    · exact .inr ⟨q, PySem.W.cellsFrom_some _ _ _ (.inl q)⟩
  refine codeAny_call_function hr.depth (KX _ _ lk) rfl S.co S.gen rfl (PySem.W.codeRec_of KX hcd) (hb _ _ _ _ ?_)
  refine wpAny_newFunctionEnv_cells S.kind hkind fun env he s1 x => ?_
  subst he
  refine ⟨lim.keeps x.toInCall.keep, codeAny_func ?_⟩
  obtain ⟨t, ht, hq⟩ := hbody cdv (hr.deeper _)
  have I : L2.Inv (L2H.cxH CX P w K mg base N qual scope f cdv A outer s H E p) [] (L2.start N vs) H s1 := L2H.inv_startH S hpin e0 hl r x
  refine wpAny_mono (ht.run [] s1 (L2.start N vs) H _ I hq) (fun fl s' hs => ?_) fun e s' hs => hs
  have fin : ∀ {σ' : L2.St} {H' : Hp} {v : V} {u : Value}, L2.Inv (L2H.cxH CX P w K mg base N qual scope f cdv A outer s H E p) [] σ' H' s' → RelV v u → Q v H' → CE outer P w H s Q u s' :=
    fun {σ' H' v u} J rv q => ⟨v, H', J.os, J.bare, J.base, J.hok, rv, q⟩
  cases fl with
  | ret u =>
    obtain ⟨v, σ', H', J, rv, q⟩ := hs
    exact fin J rv q
  | next =>
    obtain ⟨σ', H', J, q⟩ := hs
    exact fin (v := V.non) (u := Value.none) J rfl q
  | brk =>
    obtain ⟨_, _, _, q⟩ := hs
    exact False.elim q
  | cont =>
    obtain ⟨_, _, _, q⟩ := hs
    exact False.elim q
/-- the def x, called with a handled error of the class c, returns the text l -/
structure HasErr (P : Program) (w : World) (K : PySem.W.Frag) (mg : Str → Option Value) (base : Heap) (x : Str) (k : Nat) (word : Str → Option Str) : Prop where
  run : ∀ (c l : Str), word c = some l → ∀ (A : Around) (outer : List PySem.Env) (s : Shared) (Z H : Hp) (M : Mem) (a : Addr) (oe : Obj) (Q : VK) (E : XK), L2H.RoomH k A → L2H.Hot1 A (a, oe) → Zc (.ref (He.ga K c)) none oe → (∃ vs, oe.data = .fields vs) → L2H.PinOk outer H s (a, oe) →
    Env0 P w K mg base A outer s H → MemAt K Z H M → (∀ Z' H', Gr Z H M Z' H' M → MemAt K Z' H' M → Q (.str l) H') → codeAny (model P w) A (.call (.ref (He.ga K x)) ⟨[.ref a], []⟩) (CR (L2N.CX P w) outer P w H s Q E) s
  g : mg x = some (.ref (He.ga K x))
  kp : PySem.W.keepIn K (.ref (He.ga K x)) = true
theorem hasErr_of {P : Program} {w : World} {K : PySem.W.Frag} {mg : Str → Option Value} {base : Heap} {x n qual : Str} {params : Arguments} {body : List Stmt} {scope : Scope} {N : List Str} {k : Nat} {word : Str → Option Str} {T : Str → Nat → DTS}
    (F : ∃ fd, FunD K x qual params body scope [] [] (He.ga K x) fd) (Sc : FnScope N [n] scope) (g : mg x = some (.ref (He.ga K x))) (bn : ∀ {fd}, FunD K x qual params body scope [] [] (He.ga K x) fd → L2.Binds K fd [n] [])
    (hb : ∀ (c l : Str), word c = some l → ∀ (a : Addr) (oe : Obj) (f : Addr) (cdv : Value) (A : Around) (outer : List PySem.Env) (s : Shared) (H : Hp) (E : XK), L2H.Hot1 A (a, oe) → Zc (.ref (He.ga K c)) none oe → (∃ vs, oe.data = .fields vs) →
      L2H.RoomH k (A.deeper (envOfC qual scope s.heap.objs.size f cdv)) → DSs (L2H.cxH (L2N.CX P w) P w K mg base N qual scope f cdv A outer s H E (a, oe)) (WD E) body (T c a))
    (hp : ∀ (c l : Str), word c = some l → ∀ (a : Nat) (M : Mem) (Q : DQ), Q (.str l) M → T c a { nx := fun _ M' => Fg M' (Q .non), rt := fun d M' => Fg M' (Q d) } (startN N.length [.obj a]) M fun _ _ _ => False) : HasErr P w K mg base x (k + 1) word := by
  obtain ⟨fd, F⟩ := F
  refine ⟨fun c l hw A outer s Z H M a oe Q E hr hot hz hf hpin e0 m kq => ?_, g, F.kp⟩
  refine run_errH (vs := [.ref a]) F Sc (bn F) hr hpin e0 (.cons rfl .nil) rfl fun cdv hr' => ⟨_, hb c l hw a oe _ cdv A outer s H E hot hz hf hr', ?_⟩
  exact ⟨Z, startN N.length [.obj a], M, { nx := fun _ M' => Fg M' fun M2 => D.non = .str l ∧ M2 = M, rt := fun d M' => Fg M' fun M2 => d = .str l ∧ M2 = M }, fun _ _ _ => False, ⟨at_start N m (.cons (.obj a) .nil), fun Z' H' M' σ' ρ' g a ⟨M2, _, q, _⟩ => (by cases q), fun _ _ _ _ _ _ _ z => False.elim z, fun _ _ _ _ _ _ _ z => False.elim z,
    fun Z' H' M' v d g a r ⟨M2, hs, q1, q2⟩ => by subst q1 q2; cases r; exact kq Z' H' (g.sub hs) (a.sub hs), fun _ _ _ _ _ _ _ _ _ _ _ z => z.elim⟩, hp c l hw a M (fun d M2 => d = .str l ∧ M2 = M) ⟨rfl, rfl⟩⟩
/-- return x(n), n the handled error, in its suite -/
theorem pe_errcall {X : Cx} {a : Addr} {oe : Obj} {pn : List (Addr × Obj)} {c l x n : Str} {k i : Nat} {p1 p2 p3 : Pos} {word : Str → Option Str} (h : HasErr X.prog X.w X.K X.mg X.base x k word) (hw : word c = some l) (hr : Room k X.A) (hz : L2N.Zn (.ref (He.ga X.K c)) none oe) (hf : ∃ vs, oe.data = .fields vs)
    (hn : PE (X.suite a ((a, oe) :: pn)) (.Name n p2) (tVar i)) (hg : Gl X x := by rfl) (hdb : (x == ("__debug__" : Str)) = false := by decide) :
    PE (X.suite a ((a, oe) :: pn)) (.Call (.Name x p1) [.Name n p2] [] p3) (fun σ H Q => σ[i]? = some (some (.ref a)) ∧ ∃ Z M, MemAt X.K Z H M ∧ ∀ Z' H', Gr Z H M Z' H' M → MemAt X.K Z' H' M → Q (.str l) H') := by
  refine ⟨fun pins s σ H Q I hh => ?_⟩
  obtain ⟨hs, Z, M, m, kq⟩ := hh
  have hgl : Gl (X.suite a ((a, oe) :: pn)) x := hg
  refine wpAny_Call_Name_kw (ld_glob (X := X.suite a ((a, oe) :: pn)) I hgl h.g ?_ hdb)
  have ha : PA (X.suite a ((a, oe) :: pn)) [.Name n p2] (tCons (tVar i) tNil) := pa_cons hn pa_nil
  refine PySem.W.callWith_K (h₀ := X.base) I.ok.mod.kin h.kp (thn (ha.run p3 pins s σ H (fun vs H1 => vs = [V.ref a] ∧ H = H1) I ⟨_, hs, rfl, rfl⟩) fun us s1 hu => ?_)
  obtain ⟨vs, H1, I1, r1, ev, eH⟩ := hu
  subst ev
  rw [← eH] at I1
  obtain ⟨u, rfl, r⟩ := Vals.one r1
  obtain rfl : u = Value.ref a := r
  refine ⟨I1.kIn, ?_⟩
  have P1 := I1.pin (a, oe) (List.mem_append_left _ List.mem_cons_self)
  have hpin : L2H.PinOk X.stack H s1 (a, oe) := ⟨P1.1, P1.2.1, fun hm => (List.mem_cons.mp (I1.stkSub a hm)).elim P1.2.2.1 P1.2.2.2.1, P1.2.2.2.2⟩
  obtain ⟨vs, hv⟩ := hf
  have hot : L2H.Hot1 (X.suite a ((a, oe) :: pn)).A (a, oe) := ⟨rfl, vs, hv, hz.2.2 vs hv⟩
  have hrH : L2H.RoomH k (X.suite a ((a, oe) :: pn)).A := ⟨hr.dp, hr.un⟩
  refine wpAny_call (codeAny_mono (h.run c l hw _ X.stack s1 Z H M a oe Q (fun _ _ _ => False) hrH hot hz.zc ⟨vs, hv⟩ hpin I1.env0 m kq) fun r s' hq => ?_)
  cases r with
  | error e => obtain ⟨_, _, _, _, _, _, _, _, _, _, _, _, z⟩ := hq; exact z.elim
  | ok fl =>
    cases fl with
    | ret u => exact I1.after hq
    | next => exact False.elim hq
    | brk => exact False.elim hq
    | cont => exact False.elim hq
end Dl
namespace Dl
open PySem PySem.Spec PyProof.Rows L2
/-! # x(lambda: body) -/
/-- the context of a lambda's body; what it may let out has the context None -/
abbrev lamCxN (X : Cx) (A : Around) (outer : List PySem.Env) (s : Shared) (H : Hp) (E : XK) (scope : Scope) (f c' : Addr) : Cx :=
  (LamX.lamCx X A outer s H E scope f c').wish fun e s' => wpAny (model X.prog X.w) (A.deeper (LamX.lamEnv X scope s.heap.objs.size f c')) (leaving (LamX.lamEnv X scope s.heap.objs.size f c') e) (fun _ s'' => L2N.CX X.prog X.w outer H s E e s'') (fun e' s'' => L2N.CX X.prog X.w outer H s E e' s'') s'
section
variable {X : Cx} {pins : List (Addr × Obj)} {σ : L2.St} {H : Hp} {s : Shared}
/-- x(), in the def that got the lambda -/
theorem pe_actN {CXg : CXT} {Eg : XK} {Ng : List Str} {qg : Str} {sg : Scope} {g f c' : Addr} {cdg pm ctv : Value} {params : Arguments} {body : Expr} {scope : Scope} {k i : Nat} {a : Str} {pn : List (Addr × Obj)} {xe : Value → Shared → Prop} {W : WX} {tb : XK → TE} {p1 p2 : Pos}
    (I : L2.Inv X pins σ H s) (L : LamX.LamS X.env.scope scope) (hf : s.heap.get? f = some (PySem.W.kla_obj "<lambda>" (X.env.qual ++ "<lambda>") params body scope (cloFrom X.env.cells scope.names []) pm c' ctv)) (hfn : H f = none) (hfr : f ∉ frs X.stack)
    (hbind : bindArgs (PySem.W.kla_fn "<lambda>" (X.env.qual ++ "<lambda>") params body scope (cloFrom X.env.cells scope.names []) pm (.ref c') ctv) ⟨[], []⟩ = pure [])
    (tk : L2N.Takes ((cxOf CXg X.prog X.w X.K X.mg X.base Ng qg sg g cdg X.A X.stack s H Eg).tr pn xe) W) (hr : Room (k + 1) (X.A.deeper (envOfC qg sg s.heap.objs.size g cdg)))
    (hbody : ∀ (A : Around) (outer : List PySem.Env) (s : Shared) (H : Hp) (E : XK), Room k (A.deeper (LamX.lamEnv X scope s.heap.objs.size f c')) → PE (lamCxN X A outer s H E scope f c') body (tb E))
    (hN : Ng[i]? = some a) (hv : Vis sg a) (hd : (a == ("__debug__" : Str)) = false := by decide) (hcd : (a == ("__classdict__" : Str)) = false := by decide) :
    PE ((cxOf CXg X.prog X.w X.K X.mg X.base Ng qg sg g cdg X.A X.stack s H Eg).tr pn xe) (.Call (.Name a p1) [] [] p2)
      (fun σZ HZ Q => σZ[i]? = some (some (.ref f)) ∧ HZ c' = some (LamX.CodeO c' (X.env.qual ++ "<lambda>")) ∧ tb (WE W σZ) σ HZ Q) := by
  refine ⟨fun pinsZ sZ σZ HZ Q IZ h => ?_⟩
  obtain ⟨hs, hc, ht⟩ := h
  refine wpAny_Call_Name_kw (thn ((pe_var (pos := p1) (i := i) hN hv hd hcd).run pinsZ sZ σZ HZ (fun v H1 => v = .ref f ∧ H1 = HZ) IZ ⟨.ref f, hs, rfl, rfl⟩) fun u s1 ⟨v, H1, I1, r1, q1⟩ => ?_)
  obtain ⟨ev, eH⟩ := q1
  subst ev
  rw [eH] at I1
  obtain rfl : u = Value.ref f := r1
  have of1 : s1.heap.get? f = some (PySem.W.kla_obj "<lambda>" (X.env.qual ++ "<lambda>") params body scope (cloFrom X.env.cells scope.names []) pm c' ctv) := I1.base.keep f _ hf hfn hfr (fun z => nomatch (show f ∈ ([] : List Addr) from z))
  refine PySem.W.callWith_F0 ⟨_, _, _, _, of1⟩ ?_
  have un : Un (frs X.stack) [] H HZ s.heap s1.heap := I1.base
  obtain ⟨⟨oc, vs, t, hoc, hdc, hvc⟩, _, _⟩ := I1.hok c' _ hc
  have rc : codeAny (model X.prog X.w) (X.A.deeper (envOfC qg sg s.heap.objs.size g cdg)) (.call (.ref f) ⟨[], []⟩) (CR (L2N.CX X.prog X.w) (envOfC qg sg s.heap.objs.size g cdg :: X.stack) X.prog X.w HZ s1 Q (WE W σZ)) s1 := by
    refine PySem.W.kla_callFunE hr.depth of1 rfl L.co L.gen rfl ⟨c', oc, vs, t, rfl, hoc, hdc, hvc⟩ ?_
    rw [hbind]
    refine wpAny_pure (wpAny_newFunctionEnv (fun y hy => (L.own y hy).2) (fun y hy => absurd hy (by simp)) (fun h₁ hns hsb => ⟨I1.nolimit.fresh _ hsb, ?_⟩) L.kind)
    show codeAny _ _ (.expr body (LamX.lamEnv X scope s1.heap.objs.size f c')) _ _
    have kp : ∀ b o, s1.heap.get? b = some o → h₁.get? b = some o := fun b o e => hsb.extBut b o (Nat.ne_of_lt (Heap.lt_size e)) (Heap.get?_push_of_some _ e)
    have J : L2.Inv (LamX.lamCx X (X.A.deeper (envOfC qg sg s.heap.objs.size g cdg)) (envOfC qg sg s.heap.objs.size g cdg :: X.stack) s1 HZ (WE W σZ) scope f c') [] σ HZ { s1 with heap := h₁, toks := s1.toks + ([] : List (Str × Value)).length } :=
      LamX.lam_start2 I L I1.env0 hr.hd un hns kp
    refine PySem.W.kla_codeExpr (wpAny_mono ((hbody _ _ s1 HZ _ (hr.deeper _)).run [] _ _ HZ Q (J.wish _) ht) (fun v s' hq => ?_) fun e s' hq => hq)
    obtain ⟨w', H', J', rv, q⟩ := hq
    exact ⟨w', H', J'.os, J'.bare, J'.base, J'.hok, rv, q⟩
  refine wpAny_call (codeAny_mono rc fun r s' hq => ?_)
  cases r with
  | error e => exact L2N.passAt tk σZ pinsZ HZ s1 e s' I1 hq
  | ok fl =>
    cases fl with
    | ret u => exact I1.after hq
    | next => exact False.elim hq
    | brk => exact False.elim hq
    | cont => exact False.elim hq
end
/-! ### the tables through the making of a lambda -/
def tabsOf (K : PySem.W.Frag) (M : Mem) : List (Addr × Str) := M.filterMap fun x => match x.2 with
  | .tab q => some (x.1, lamQ q)
  | _ => none
theorem tabsOf_mem {K : PySem.W.Frag} {M : Mem} {p : Addr} {n : Str} (h : (p, MO.tab n) ∈ M) : (p, lamQ n) ∈ tabsOf K M := List.mem_filterMap.mpr ⟨_, h, rfl⟩
theorem of_tabsOf {K : PySem.W.Frag} {M : Mem} {p : Addr × Str} (h : p ∈ tabsOf K M) : ∃ n, (p.1, MO.tab n) ∈ M ∧ p.2 = lamQ n := by
  obtain ⟨x, hx, e⟩ := List.mem_filterMap.mp h
  obtain ⟨a, o⟩ := x
  cases o <;> cases e
  exact ⟨_, hx, rfl⟩
theorem tabs_of {K : PySem.W.Frag} {Z H : Hp} {M : Mem} (m : MemAt K Z H M) : LamX.Tabs (tabsOf K M) H := fun p hp => by
  obtain ⟨n, h, e⟩ := of_tabsOf hp
  rw [e]
  exact (m.mem _ _ h).2.2
theorem tab_uniq {M : Mem} {p : Nat} {o o' : MO} : (keys M).Nodup → (p, o) ∈ M → (p, o') ∈ M → o = o' := by
  induction M with
  | nil => intro _ h; cases h
  | cons x r ih =>
    intro nd h h'
    have nd' := List.nodup_cons.mp (show (x.1 :: keys r).Nodup from nd)
    rcases List.mem_cons.mp h with e | e <;> rcases List.mem_cons.mp h' with e' | e'
    · rw [← e] at e'; exact (Prod.mk.inj e').2.symm
    · exact absurd (List.mem_map.mpr ⟨_, e', by rw [← e]⟩) nd'.1
    · exact absurd (List.mem_map.mpr ⟨_, e, by rw [← e']⟩) nd'.1
    · exact ih nd'.2 e e'
theorem MemAt.extN {K : PySem.W.Frag} {Z H H1 : Hp} {M : Mem} (m : MemAt K Z H M) (e : LamX.ExtN H H1) (t : LamX.Tabs (tabsOf K M) H1) : MemAt K Z H1 M := by
  have xt : Xt H H1 := fun b P h => e b _ h (fun ps z => by cases z)
  refine ⟨fun b o h => e b o (m.zh b o h) (fun ps z => m.nz b ps (by rw [h, z])), fun p o h => ⟨(m.mem p o h).1, ?_⟩, m.nd, m.nz⟩
  have mo := (m.mem p o h).2
  cases o with
  | tab q => exact ⟨mo.1, t _ (tabsOf_mem h)⟩
  | lst ds => exact mo.mono (Ex.refl Z) (by obtain ⟨xs, a, _⟩ := mo; rw [a, e _ _ a (fun ps z => by cases z)]) xt
  | can => exact mo.mono (Ex.refl Z) (by obtain ⟨x, y, a, _⟩ := mo; rw [a, e _ _ a (fun ps z => by cases z)]) xt
  | dK kvs => exact mo.mono (Ex.refl Z) (by obtain ⟨xs, a, _⟩ := mo; rw [a, e _ _ a (fun ps z => by cases z)]) xt
  | dT kvs => exact mo.mono (Ex.refl Z) (by obtain ⟨xs, a, _⟩ := mo; rw [a, e _ _ a (fun ps z => by cases z)]) xt
  | ins c fs => exact mo.mono (Ex.refl Z) (by obtain ⟨x, y, a, _⟩ := mo; rw [a, e _ _ a (fun ps z => by cases z)]) xt
theorem Gr.extN (Z : Hp) {H H1 : Hp} (M : Mem) (e : LamX.ExtN H H1) : Gr Z H M Z H1 M := ⟨Ex.refl Z, fun _ _ h => .inl h, fun b o n h _ => e b o h n.nt, fun _ h => .inl h⟩
/-! ### def x(call): try: call() / except RoundError as error: return _law_names(error) / return "" -/
def Exn.word (word : Str → Option Str) : Exn → Option Str
  | .mk c none => word c
  | _ => none
abbrev wordBody (p1 p2 p3 p4 p5 p6 p7 p8 p9 p10 p11 p12 : Pos) (j : Nat) : List Stmt :=
  [.Try [.Expr (.Call (.Name "call" p1) [] [] p2) p3] [.ExceptHandler (some (.Name "RoundError" p4)) (some "error") [.Return (some (.Call (.Name "_law_names" p5) [.Name "error" p6] [] p7)) p8] p9] [] [] p10,
   .Return (some (.Constant (.str ("" : Str)) j p11)) p12]
structure WordF (K : PySem.W.Frag) (word : Str → Option Str) : Prop where
  ex : ∀ c l, word c = some l → PySem.W.exmOne K (.ref (He.ga K c)) (.ref (He.ga K "RoundError")) = some true
structure HasWord (P : Program) (w : World) (K : PySem.W.Frag) (mg : Str → Option Value) (base : Heap) (x : Str) (k : Nat) (word : Str → Option Str) : Prop where
  ex : ∃ (params : Arguments) (scope : Scope) (fd : FuncData) (p1 p2 p3 p4 p5 p6 p7 p8 p9 p10 p11 p12 : Pos) (j : Nat), FunD K x x params (wordBody p1 p2 p3 p4 p5 p6 p7 p8 p9 p10 p11 p12 j) scope [] [] (He.ga K x) fd ∧ FnScope ["call", "error"] ["call"] scope ∧ L2.Binds K fd ["call"] [] ∧
    scope.names.lookup ("RoundError" : Str) = some .globalImplicit ∧ scope.names.lookup ("_law_names" : Str) = some .globalImplicit ∧ Vis scope "call" ∧ Vis scope "error" ∧ scope.names.lookup ("error" : Str) = some .local
  g : mg x = some (.ref (He.ga K x))
  kp : PySem.W.keepIn K (.ref (He.ga K x)) = true
  re : mg "RoundError" = some (.ref (He.ga K "RoundError"))
  names : HasErr P w K mg base "_law_names" k word
  wf : WordF K word
/-- what is wished of an exception -/
def wishW (K : PySem.W.Frag) (word : Str → Option Str) (Q : VK) : XK := fun cls d H' => ∃ Z M c l, MemAt K Z H' M ∧ cls = .ref (He.ga K c) ∧ d = none ∧ word c = some l ∧ ∀ Z'' H'', Gr Z H' M Z'' H'' M → MemAt K Z'' H'' M → Q (.str l) H''
def tsW (K : PySem.W.Frag) (word : Str → Option Str) (i : Nat) (a : Addr) (cls : Value) (d : Option Addr) : TS := fun D σ H => σ[i]? = some (some (.ref a)) ∧ wishW K word D.rt cls d H
theorem word_gives {X : Cx} {word : Str → Option Str} {x q : Str} {sg : Scope} {g f c' : Addr} {cdg : Value} {k j : Nat} {s : Shared} {H : Hp} {Q : VK} {tl : XK → Hp → VK → Prop} {p1 p2 p3 p4 p5 p6 p7 p8 p9 p10 p11 p12 : Pos}
    (names : HasErr X.prog X.w X.K X.mg X.base "_law_names" k word) (wf : WordF X.K word) (re : X.mg "RoundError" = some (.ref (He.ga X.K "RoundError"))) (nd : (["call", "error"] : List Str).Nodup) (h1 : sg.names.lookup ("RoundError" : Str) = some .globalImplicit) (h2 : sg.names.lookup ("_law_names" : Str) = some .globalImplicit)
    (h3 : Vis sg "error") (h4 : sg.names.lookup ("error" : Str) = some .local) (hr : Room k (X.A.deeper (envOfC x sg s.heap.objs.size g cdg)))
    (act : ∀ (W : WX) (pn : List (Addr × Obj)) (xe : Value → Shared → Prop), L2N.Takes ((cxOf C8.CX0 X.prog X.w X.K X.mg X.base ["call", "error"] x sg g cdg X.A X.stack s H C8.E0).nox.tr pn xe) W →
      PE ((cxOf C8.CX0 X.prog X.w X.K X.mg X.base ["call", "error"] x sg g cdg X.A X.stack s H C8.E0).nox.tr pn xe) (.Call (.Name "call" p1) [] [] p2) (fun σZ HZ Q => σZ[0]? = some (some (.ref f)) ∧ HZ c' = some (LamX.CodeO c' q) ∧ tl (WE W σZ) HZ Q))
    (hc : H c' = some (LamX.CodeO c' q)) (h : ∀ E : XK, (∀ cls d H', wishW X.K word Q cls d H' → E cls d H') → tl E H fun _ H' => Q (.str ("" : Str)) H') :
    ∃ t, PSs (cxOf C8.CX0 X.prog X.w X.K X.mg X.base ["call", "error"] x sg g cdg X.A X.stack s H C8.E0).nox (wordBody p1 p2 p3 p4 p5 p6 p7 p8 p9 p10 p11 p12 j) t ∧ t { nx := fun _ H' => Q .non H', rt := Q } (L2.start ["call", "error"] [.ref f]) H := by
  refine ⟨_, pss_cons (L2N.ps_try_as (i := 1) (c := .ref (He.ga X.K "RoundError")) (ts := tsW X.K word 1) (Wout := W0) rfl rfl nd rfl h4 ⟨h1, by decide, .inl re⟩ takes0 (fun W pn xe tk _ => pss_one (ps_expr (act W pn xe tk)))
    fun a oe cls d pn hz hf => ⟨fun pins s' σ H' D I hh => ?_⟩) (pss_one (ps_ret pe_str)), ?_⟩
  · obtain ⟨hs, Z, M, c, l, m, rfl, rfl, hw, kq⟩ := hh
    have hgn : Gl (cxOf C8.CX0 X.prog X.w X.K X.mg X.base ["call", "error"] x sg g cdg X.A X.stack s H C8.E0).nox "_law_names" := h2
    have hvar : PE ((cxOf C8.CX0 X.prog X.w X.K X.mg X.base ["call", "error"] x sg g cdg X.A X.stack s H C8.E0).nox.suite a ((a, oe) :: pn)) (.Name "error" p6) (tVar 1) := pe_var (i := 1) rfl h3 (by decide) (by decide)
    exact (pss_one (ps_ret (pe_errcall (X := (cxOf C8.CX0 X.prog X.w X.K X.mg X.base ["call", "error"] x sg g cdg X.A X.stack s H C8.E0).nox) names hw hr hz hf hvar hgn))).run pins s' σ H' D I ⟨hs, Z, M, m, kq⟩
  · refine ⟨rfl, hc, h _ fun cls d H' hw => ?_⟩
    obtain ⟨Z, M, c, l, m, rfl, rfl, hwd, kq⟩ := hw
    exact ⟨true, wf.ex c l hwd, fun _ a _ => ⟨rfl, Z, M, c, l, m, rfl, rfl, hwd, kq⟩, fun z => by cases z⟩
/-- x(lambda: body) over data: n: the def that makes the lambda -/
def dLamW (word : Str → Option Str) (n : Str) (T : DTE) : DTE := fun ρ M Q R => (∃ p, mget M p = some (.tab n)) ∧ T ρ M (fun _ M' => Q (.str ("" : Str)) M') fun ex _ M' => ∃ l, ex.word word = some l ∧ Q (.str l) M'
theorem de_lamword {X : Cx} {W : WX} {word : Str → Option Str} {x n : Str} {k : Nat} {params : Arguments} {body : Expr} {scope : Scope} {T : DTE} {p lpos pos : Pos} (hw : HasWord X.prog X.w X.K X.mg X.base x k word)
    (TB : LamX.TabB X.base X.mg (He.cT X.K (n, none)).1 (He.cT X.K (n, none)).2) (hcode : X.env.code = .ref (He.cT X.K (n, none)).1) (hq : X.env.qual ++ "<lambda>" = lamQ n) (hr : Room (k + 2) X.A) (L : LamX.LamS X.env.scope scope) (hdef : defaultsOf params X.env = ([], []))
    (hbind : ∀ (q : Str) (cl : List (Str × Addr)) (pm cv ctv : Value), bindArgs (PySem.W.kla_fn "<lambda>" q params body scope cl pm cv ctv) ⟨[], []⟩ = pure [])
    (hbody : ∀ (A : Around) (outer : List PySem.Env) (s : Shared) (H : Hp) (E : XK) (f c' : Addr), Room k (A.deeper (LamX.lamEnv X scope s.heap.objs.size f c')) → DE (lamCxN X A outer s H E scope f c') (WD E) body T)
    (hg : Gl X x := by rfl) (hdb : (x == ("__debug__" : Str)) = false := by decide) :
    DE X W (.Call (.Name x p) [.Lambda params body scope lpos] [] pos) (dLamW word n T) := by
  obtain ⟨gparams, sg, fd, p1, p2, p3, p4, p5, p6, p7, p8, p9, p10, p11, p12, j, F, Sg, hb, h1, h2, hvc, hve, h4⟩ := hw.ex
  obtain ⟨oc, od, dV, kV, doc, pm, an, cdv, ct, osl, rfl, lk, hcg, _, _⟩ := F.ex
  refine ⟨fun pins s σ H Q I h => ?_⟩
  obtain ⟨Z, ρ, M, Qd, Rd, G, ⟨pt, hpt⟩, hT⟩ := h
  have hmem := mget_mem hpt
  have mt := (G.at_.mem pt _ hmem).2
  have ept : pt = (He.cT X.K (n, none)).2 := mt.1
  refine wpAny_Call_Name_kw (ld_glob I hg hw.g ?_ hdb)
  refine PySem.W.callWith_K (h₀ := X.base) I.ok.mod.kin hw.kp ?_ (by rfl) (by rfl)
  show wpAny _ _ (spliced ((false, eval (.Lambda params body scope lpos) X.env) :: backTo pos (starEach [] X.env))) _ _ s
  refine Calls.spliced_cons (LamX.lam_make2 (T := tabsOf X.K M) I TB hcode (by rw [hq, ← ept]; exact tabsOf_mem hmem) (fun q hqm e => by
    obtain ⟨n', h', e'⟩ := of_tabsOf hqm
    rw [e, ← ept] at h'
    cases tab_uniq G.at_.nd h' hmem
    rw [hq]; exact e') (tabs_of G.at_.toMemAt) hdef (L.has I.ok) fun f c' pm' ctv H1 s' I1 eN T1 hf hfn hfr hco => ?_)
  refine Calls.spliced_nil ⟨I1.kIn, ?_⟩
  have at1 : At X.K Z H1 σ ρ M := G.at_.later (Ex.refl Z) (G.at_.toMemAt.extN eN T1)
  have g1 : Gr Z H M Z H1 M := Gr.extN Z M eN
  have G1 := G.step g1 at1
  have rc : codeAny (model X.prog X.w) X.A (.call (.ref (He.ga X.K x)) ⟨[.ref f], []⟩) (CR C8.CX0 X.stack X.prog X.w H1 s' Q C8.E0) s' := by
    refine LamX.run_ofS (N := ["call", "error"]) (ps := ["call"]) (us := [.ref f]) (vs := [.ref f]) lk hcg Sg hr I1.env0 (hb s' [.ref f] I1.kIn rfl) (.cons rfl .nil) rfl fun hr' => ?_
    have key : ∀ E : XK, (∀ cls d H', wishW X.K word Q cls d H' → E cls d H') → lE X.K (WD E) T σ H1 fun _ H' => Q (.str ("" : Str)) H' := by
      intro E hE
      refine ⟨Z, ρ, M, _, _, ⟨at1, fun Z' H' M' v d g a r q => G1.k Z' H' M' (.str ("" : Str)) (.str ("" : Str)) g a (.str _) q, fun Z' H' M' ex cls dd g a er q => hE cls dd H' ?_⟩, hT⟩
      obtain ⟨l, hl, q⟩ := q
      obtain ⟨c, fo⟩ := ex
      cases fo with
      | some z => cases hl
      | none =>
        obtain ⟨e1, e2⟩ := er
        exact ⟨Z', M', c, l, a.toMemAt, e1, e2, hl, fun Z'' H'' g'' m'' => G1.k Z'' H'' M' (.str l) (.str l) (g.trans g'') (a.later g''.zz m'') (.str _) q⟩
    obtain ⟨t', ht', hq'⟩ := word_gives (X := X) (word := word) (x := x) (q := X.env.qual ++ "<lambda>") (sg := sg) (g := He.ga X.K x) (f := f) (c' := c') (cdg := cdv) (k := k) (s := s') (H := H1) (Q := Q) (tl := fun E H' Q' => lE X.K (WD E) T σ H' Q') (j := j) (p1 := p1) (p2 := p2) (p3 := p3) (p4 := p4) (p5 := p5) (p6 := p6) (p7 := p7) (p8 := p8) (p9 := p9) (p10 := p10) (p11 := p11) (p12 := p12)
      hw.names hw.wf hw.re Sg.nd h1 h2 hve h4 (hr'.mono (Nat.le_succ k)) (fun W pn xe tk => pe_actN (CXg := C8.CX0) (Eg := C8.E0) (i := 0) (tb := fun E => lE X.K (WD E) T) I1 L hf hfn hfr (hbind _ _ _ _ _) tk hr' (fun A outer s H E hr2 => hbody A outer s H E f c' hr2) rfl hvc) hco key
    exact ⟨t', ht'.nox, hq'⟩
  refine wpAny_call (codeAny_mono rc fun r s2 hq => ?_)
  cases r with
  | error e => exact (show False from hq).elim
  | ok fl =>
    cases fl with
    | ret u => exact I1.after hq
    | next => exact False.elim hq
    | brk => exact False.elim hq
    | cont => exact False.elim hq
end Dl
namespace Dl
open PySem PySem.Spec PyProof.Rows L2
/-! # try: .. except RoundError as error: return _law_names(error) -/
def dTryW (word : Str → Option Str) (i : Nat) (T : DTS) : DTS := fun E ρ M R => T E ρ M fun ex ρ' M' => i < ρ'.length ∧ ∃ l, ex.word word = some l ∧ E.rt (.str l) M'
theorem ds_tryW {X : Cx} {W : WX} {word : Str → Option Str} {k : Nat} {body : List Stmt} {T : DTS} {p4 p5 p6 p7 p8 p9 p10 : Pos} (i : Nat) (hs : X.stack = X.env :: X.outer) (hf : X.env.frame = some X.env.locals) (nd : X.N.Nodup) (hi : X.N[i]? = some "error") (hln : X.env.kindOf "error" = some .local) (hv : Vis X.env.scope "error")
    (h : HasErr X.prog X.w X.K X.mg X.base "_law_names" k word) (wf : WordF X.K word) (re : X.mg "RoundError" = some (.ref (He.ga X.K "RoundError"))) (hr : Room k X.A)
    (hb : ∀ (W : WX) (pn : List (Addr × Obj)) (xe : Value → Shared → Prop), L2N.Takes (X.tr pn xe) W → PassesOwn (model X.prog X.w) X.A X.env xe → DSs (X.tr pn xe) W body T) (tk : L2N.Takes X W) (h1 : Gl X "RoundError" := by rfl) (h2 : Gl X "_law_names" := by rfl) :
    DS X W (.Try body [.ExceptHandler (some (.Name "RoundError" p4)) (some "error") [.Return (some (.Call (.Name "_law_names" p5) [.Name "error" p6] [] p7)) p8] p9] [] [] p10) (dTryW word i T) := by
  refine wkS (L2N.ps_try_as (i := i) (c := .ref (He.ga X.K "RoundError")) (tb := fun W => lS X.K W T) (ts := tsW X.K word i) (Wout := W) hs hf nd hi hln ⟨h1, by decide, .inl re⟩ tk hb fun a oe cls d pn hz hf => ⟨fun pins s' σ H' D I hh => ?_⟩) fun D σ H hh => ?_
  · obtain ⟨hs, Z, M, c, l, m, rfl, rfl, hw, kq⟩ := hh
    have hvar : PE (X.suite a ((a, oe) :: pn)) (.Name "error" p6) (tVar i) := pe_var (i := i) hi hv (by decide) (by decide)
    exact (pss_one (ps_ret (pe_errcall (X := X) h hw hr hz hf hvar h2))).run pins s' σ H' D I ⟨hs, Z, M, m, kq⟩
  · obtain ⟨Z, ρ, M, E, Rd, G, q⟩ := hh
    refine ⟨Z, ρ, M, E, _, ⟨G.at_, G.nx, G.bk, G.ct, G.rt, fun Z' H' M' σ' ρ' ex cls dd g a er q => ?_⟩, q⟩
    obtain ⟨hl, l, hw, q⟩ := q
    obtain ⟨c, fo⟩ := ex
    cases fo with
    | some z => cases hw
    | none =>
      obtain ⟨e1, e2⟩ := er
      subst e1 e2
      exact ⟨true, wf.ex c l hw, fun _ b _ => ⟨by rw [List.getElem?_set_self (by rw [← a.ln]; exact hl)], Z', M', c, l, a.toMemAt, rfl, rfl, hw, fun Z'' H'' g'' m'' => G.rt Z'' H'' M' _ _ (g.trans g'') m'' (.str l) q⟩, fun z => by cases z⟩
/-- a def's rule that tells its code object -/
theorem fnDC {P : Program} {w : World} {K : PySem.W.Frag} {mg : Str → Option Value} {base : Heap} {x qual : Str} {params : Arguments} {body : List Stmt} {scope : Scope} {N ps : List Str} {k : Nat} {S : DSp} {T : DTS} {fd : FuncData}
    (F : FunD K x qual params body scope [] [] (He.ga K x) fd) (Sc : FnScope N ps scope) (hl : ∀ ds M Q R, S ds M Q R → ds.length = ps.length)
    (hb : ∀ (f : Addr) (A : Around) (outer : List PySem.Env) (s : Shared) (H : Hp) (E : XK), Room k (A.deeper (envOfC qual scope s.heap.objs.size f (.ref (He.cT K (x, none)).1))) → DSs (cxOf (L2N.CX P w) P w K mg base N qual scope f (.ref (He.cT K (x, none)).1) A outer s H E) (WD E) body T)
    (hp : Keeps S N.length T) : FnD P w K mg base (k + 1) (He.ga K x) fd ps S := by
  obtain ⟨oc, od, dV, kV, doc, pm, an, cdv, ct, osl, rfl, lk, hcd, _, _⟩ := F.ex
  obtain ⟨c, rfl⟩ := He.codeIn_ref hcd
  have e : (He.cT K (x, none)).1 = c := He.codeOf_eq (p := (x, none)) lk rfl
  rw [e] at hb
  refine fn_of lk hcd Sc (fun vs H Q E h => ?_) fun A outer s H vs Q E hr h => ⟨_, hb _ A outer s H E hr, ?_⟩
  · obtain ⟨Z, M, ds, Qd, Rd, m, r, q, _⟩ := h
    rw [r.length]; exact hl ds M Qd Rd q
  · obtain ⟨Z, M, ds, Qd, Rd, m, r, q, k1, k2⟩ := h
    exact ⟨Z, startN N.length ds, M, { nx := fun _ M' => Fg M' (Qd .non), rt := fun d M' => Fg M' (Qd d) }, fun ex _ M' => Fg M' (Rd ex), ⟨at_start N m r, fun Z' H' M' σ' ρ' g a ⟨M2, hs, q⟩ => k1 Z' H' M2 .non .non (g.sub hs) (a.toMemAt.sub hs) .non q, fun _ _ _ _ _ _ _ z => False.elim z, fun _ _ _ _ _ _ _ z => False.elim z, fun Z' H' M' v d g a r ⟨M2, hs, q⟩ => k1 Z' H' M2 v d (g.sub hs) (a.sub hs) r q,
      fun Z' H' M' σ' ρ' ex cls dd g a e ⟨M2, hs, q⟩ => k2 Z' H' M2 ex cls dd (g.sub hs) (a.toMemAt.sub hs) e q⟩, hp ds M Qd Rd q⟩
theorem has_ofC {P : Program} {w : World} {K : PySem.W.Frag} {mg : Str → Option Value} {base : Heap} {x qual : Str} {params : Arguments} {body : List Stmt} {scope : Scope} {N ps : List Str} {k : Nat} {S : DSp} {T : DTS}
    (F : ∃ fd, FunD K x qual params body scope [] [] (He.ga K x) fd) (Sc : FnScope N ps scope) (g : mg x = some (.ref (He.ga K x))) (bn : ∀ {fd}, FunD K x qual params body scope [] [] (He.ga K x) fd → L2.Binds K fd ps []) (hl : ∀ ds M Q R, S ds M Q R → ds.length = ps.length)
    (hb : ∀ (f : Addr) (A : Around) (outer : List PySem.Env) (s : Shared) (H : Hp) (E : XK), Room k (A.deeper (envOfC qual scope s.heap.objs.size f (.ref (He.cT K (x, none)).1))) → DSs (cxOf (L2N.CX P w) P w K mg base N qual scope f (.ref (He.cT K (x, none)).1) A outer s H E) (WD E) body T)
    (hp : Keeps S N.length T) : Has P w K mg base x (k + 1) ps S := by
  obtain ⟨fd, F⟩ := F
  exact ⟨⟨fd, fnDC F Sc hl hb hp, bn F⟩, g, F.kp⟩
end Dl
namespace HT
open PySem PySem.Spec PySem.Calls PyProof.Rows
section
variable {prog : Program} {w : World} {A : Around} {E : Value → Shared → Prop} {s : Shared}
theorem back_places (n : Nat) : Builtin.Slice.slicePlaces ((n : Int) - 1) (-1) (-1) = n := by
  unfold Builtin.Slice.slicePlaces
  have h1 : ¬ ((-1 : Int) > 0) := by decide
  have e : ((n : Int) - 1 - -1 - 1) / (- -1) = (n : Int) - 1 := by
    rw [show (- -1 : Int) = 1 by decide, Int.ediv_one]; omega
  simp only [h1, if_false, e]
  split <;> omega
theorem back_adjust (n : Nat) : Builtin.Slice.sliceAdjust none none (-1) (n : Int) = ((n : Int) - 1, -1) := by
  unfold Builtin.Slice.sliceAdjust
  simp
theorem back_pick {α : Type} (xs : Array α) : ((List.range xs.size).filterMap fun (m : Nat) => xs[(((xs.size : Int) - 1) + (m : Int) * (-1)).toNat]?).toArray = xs.toList.reverse.toArray := by
  have h := PySem.W.krv_all xs
  rw [← h, ← List.filterMap_reverse, ← PySem.W.krv_range, List.filterMap_map]
  congr 1
  have key : ∀ l : List Nat, (∀ m ∈ l, m < xs.size) → (l.filterMap fun (m : Nat) => xs[(((xs.size : Int) - 1) + (m : Int) * (-1)).toNat]?) = l.filterMap ((fun x => xs[x]?) ∘ fun k => xs.size - 1 - k) := by
    intro l
    induction l with
    | nil => intro _; rfl
    | cons m l ih =>
      intro h
      have hm := h m (List.mem_cons_self ..)
      have e : (((xs.size : Int) - 1) + (m : Int) * (-1)).toNat = xs.size - 1 - m := by omega
      rw [List.filterMap_cons, List.filterMap_cons, ih fun q hq => h q (List.mem_cons_of_mem _ hq), e] <;> rfl
  exact key _ fun m hm => List.mem_range.mp hm
theorem getItem_tuple_back {t sl : Addr} {items : Array Value} {vs : Value} {Q : Value → Shared → Prop} (ht : IsTup s.heap t items) (hs : s.heap.IsSliceOf sl .none .none vs) (ps : IsPart vs (some (-1)))
    (h : Q (.ref s.heap.objs.size) { s with heap := s.heap.push { cls := .type "tuple", data := .seq items.toList.reverse.toArray } }) (hsz : items.size ≤ sizeLine) : wpAny (model prog w) A (getItem (.ref t) (.ref sl)) Q E s := by
  have htake : sizeOk (.seq items.toList.reverse.toArray) := by
    show items.toList.reverse.toArray.size ≤ sizeLine
    rw [List.size_toArray, List.length_reverse, Array.length_toList]
    omega
  obtain ⟨os, hos, hcs, hds⟩ := id hs
  have hTs : s.TypeIs (.ref sl) "slice" := ⟨os, hos, hcs⟩
  unfold getItem
  try with_reducible refine wpAny_holding ?_
  first | refine wpAny_bind (wpAny_pure ?_) | skip
  refine wpAny_bind (wpAny_sequenceKey ht.typeIs (by decide) ?_)
  refine wpAny_bind (wpAny_callSpecial?_slot (name := Str.ofString "__getitem__") ht.typeIs PyProof.Rows.slot_tuple_getitem
    (wpAny_call_entry PyProof.Rows.slot_tuple_getitem ht.typeIs entry_tuple_getitem ?_ (args_tuple_getitem _ _)))
  show wpAny _ _ (Builtin.Tuple.tupleItemsOf (.ref t) >>= _) _ _ s
  refine wpAny_bind (tupleItemsOf_ ht ?_)
  refine wpAny_bind (wpAny_typeOf hTs ?_)
  rw [if_pos (by decide)]
  refine wpAny_bind ?_
  unfold Builtin.Slice.sliceApplied Builtin.Slice.sliceFields
  refine wpAny_bind (wpAny_bind (wpAny_field hos hds (x := .none) rfl (wpAny_bind (wpAny_field hos hds (x := .none) rfl (wpAny_bind (wpAny_field hos hds (x := vs) rfl (wpAny_pure ?_)))))))
  refine wpAny_bind (slicePart_ ps ?_)
  show wpAny _ _ (if ((-1 : Int) == 0) = true then _ else _) _ _ s
  rw [if_neg (by decide)]
  refine wpAny_bind (slicePart_none (wpAny_bind (slicePart_none (wpAny_bind (wpAny_pure ?_)))))
  show wpAny _ _ (match Builtin.Slice.sliceAdjust none none (-1) (items.size : Int) with | (lo, hi) => pure (lo, (-1 : Int), Builtin.Slice.slicePlaces lo hi (-1))) _ _ s
  rw [back_adjust]
  show wpAny _ _ (pure (((items.size : Int) - 1), (-1 : Int), Builtin.Slice.slicePlaces ((items.size : Int) - 1) (-1) (-1))) _ _ s
  rw [back_places]
  refine wpAny_pure ?_
  have hno : ¬ ((((items.size : Int) - 1) == 0 && (-1 : Int) == 1 && items.size == items.size) = true) := by
    intro q
    rw [Bool.and_eq_true, Bool.and_eq_true] at q
    exact absurd q.1.2 (by decide)
  show wpAny _ _ (if (((items.size : Int) - 1) == 0 && (-1 : Int) == 1 && items.size == items.size) = true then _ else _) _ _ s
  rw [if_neg hno, back_pick]
  first
    | exact wpAny_bind (m := Builtin.Tuple.tupleExact _) (wpAny_newObj_type (wpAny_pure ⟨_, rfl, wpAny_pure h⟩) htake)
    | exact wpAny_bind (m := Builtin.Tuple.tupleExact _) (wpAny_newObj_type (wpAny_bind (wpAny_pure (wpAny_pure ⟨_, rfl, wpAny_pure h⟩))) htake)
    | exact wpAny_bind (wpAny_bind (m := Builtin.Tuple.tupleExact _) (wpAny_newObj_type (wpAny_pure (wpAny_pure ⟨_, rfl, wpAny_pure h⟩)) htake))
    | exact wpAny_bind (wpAny_bind (m := Builtin.Tuple.tupleExact _) (wpAny_newObj_type (wpAny_pure ⟨_, rfl, wpAny_pure h⟩) htake))
end
end HT
namespace Dl
open PySem PySem.Spec PyProof.Rows L2
/-! # x[::-1] of texts and tuples; text.count, text.index -/
def revZ (z : Str) : Str := ⟨z.cps.toList.reverse.toArray⟩
theorem revZ_length (z : Str) : (revZ z).length = z.length := by simp [revZ, Str.length]
theorem str_back (z : Str) : ((Builtin.Str.strSliceIndices none none (-1) z.length).filterMap (z.cps[·]?)).toArray = z.cps.toList.reverse.toArray := by
  have e : Builtin.Str.strSliceIndices none none (-1) z.length = (List.range z.length).map fun k => z.length - 1 - k := by
    unfold Builtin.Str.strSliceIndices
    exact PySem.W.krv_sliceRange z.length
  rw [e, PySem.W.krv_range, List.filterMap_reverse]
  congr 2
  exact PySem.W.krv_all z.cps
def tRevA (K : PySem.W.Frag) (te : TE) : TE := fun σ H Q => te σ H fun x H1 => (∃ z, x = .str z ∧ z.length ≤ sizeLine ∧ Q (.str (revZ z)) H1) ∨ ∃ a xs, x = .ref a ∧ SqT K H1 a xs ∧ ∀ p, H1 p = none → Q (.ref p) (upd H1 p (.tup xs.reverse))
theorem pe_revA {X : Cx} {e : Expr} {te : TE} {k : Nat} {p1 p2 p3 pos : Pos} (he : PE X e te) : PE X (.Subscript e (.Slice none none (some (.UnaryOp .USub (.Constant (.int 1) k p1) p2)) p3) pos) (tRevA X.K te) := by
  refine ⟨fun pins s σ H Q I h => ?_⟩
  refine Subscript_ (thn (he.run pins s σ H _ I h) fun v s1 ⟨x, H1, I1, r1, q1⟩ => ?_)
  have hst : PO X (some (.UnaryOp .USub (.Constant (.int 1) k p1) p2)) (tPart (tUn (rU fun i => .int (-i)) (tC (.int 1)))) := po_some (pe_un un_neg pe_int)
  refine wpAny_Slice (thn (po_none.run pins s1 σ H1 (fun o H2 => o = none ∧ H2 = H1) I1 ⟨rfl, rfl⟩) fun vl s2 ⟨l, H2, I2, pl, el, e2⟩ => ?_)
  subst el e2
  refine thn (po_none.run pins s2 σ H2 (fun o H3 => o = none ∧ H3 = H2) I2 ⟨rfl, rfl⟩) fun vu s3 ⟨u, H3, I3, pu, eu, e3⟩ => ?_
  subst eu e3
  refine thn (hst.run pins s3 σ H3 (fun o H4 => o = some (-1) ∧ H4 = H3) I3 ⟨1, rfl, -1, rfl, rfl, rfl⟩) fun vs s4 ⟨o, H4, I4, ps, eo, e4⟩ => ?_
  subst eo e4
  have I5 : L2.Inv X pins σ H4 { s4 with heap := s4.heap.push { cls := .type "slice", data := .fields #[vl, vu, vs] } } := I4.kept (t' := s4.toks) fun b ob q => Heap.get?_push_of_some _ q
  show wpAny (model X.prog X.w) X.A (subscriptTail e (.Slice none none (some (.UnaryOp .USub (.Constant (.int 1) k p1) p2)) p3) v (.ref s4.heap.objs.size)) (EP X pins σ Q) X.xe { s4 with heap := s4.heap.push { cls := .type "slice", data := .fields #[vl, vu, vs] } }
  cases pl
  cases pu
  rcases q1 with ⟨z, rfl, hz, q⟩ | ⟨a, xs, rfl, hx, q⟩
  · obtain ⟨t, rfl⟩ := r1
    cases ps with
    | int i tk =>
    refine tail_any (ops := [.str z t, .ref s4.heap.objs.size]) (PySem.typeIs_str _ _ _) (PySem.F.slot_str_getitem.lookup) ?_ (by with_unfolding_all rfl)
    refine wpAny_getItem_str_slice (l := none) (u := none) (st := some (-1, tk)) ⟨_, Heap.get?_push_size _ rfl, rfl, rfl⟩ rfl ?_
    unfold PySem.sliceMade PySem.slicePicked
    show Made.post (if ((-1 : Int) == 1 && (Builtin.Str.strSliceIndices none none (-1) z.length).length == z.length) = true then Made.val (.str z t) else Made.str ⟨((Builtin.Str.strSliceIndices none none (-1) z.length).filterMap (z.cps[·]?)).toArray⟩) (EP X pins σ Q) _
    rw [if_neg (by rw [show ((-1 : Int) == 1) = false from by decide, Bool.false_and]; exact Bool.false_ne_true), str_back]
    exact ⟨by show (revZ z).length ≤ sizeLine; rw [revZ_length]; exact hz, .str (revZ z), H4, I5.tok _, ⟨_, rfl⟩, q⟩
  · cases r1
    obtain ⟨its, r, ht, hz⟩ := I5.tuple hx
    refine tail_any (ops := [.ref a, .ref s4.heap.objs.size]) ht.typeIs (PyProof.Rows.slot_tuple_getitem.lookup) ?_ (by with_unfolding_all rfl)
    refine HT.getItem_tuple_back ht (Heap.IsSliceOf.new _ .none .none vs) ps ?_ (by have := r.length; rw [List.size_toArray]; omega)
    refine ⟨.ref _, _, I5.laid (t' := s4.toks) (o := .tup xs.reverse) (fun b ob q => Heap.get?_push_of_some _ q) (Nat.le_refl _) ?_, rfl, q _ (I5.hok.fresh (Nat.le_refl _))⟩
    exact ⟨by rw [List.length_reverse]; exact hz, _, r.reverse, IsTup.new _ _⟩
def dRev (a : DTE) : DTE := fun ρ M Q R => a ρ M (fun x M1 => match x with
  | .str z => z.length ≤ 100000 ∧ Q (.str (revZ z)) M1
  | .tup ds => Q (.tup ds.reverse) M1
  | _ => False) R
theorem de_rev {X : Cx} {W : WX} {e : Expr} {T : DTE} {k : Nat} {p1 p2 p3 pos : Pos} (he : DE X W e T) : DE X W (.Subscript e (.Slice none none (some (.UnaryOp .USub (.Constant (.int 1) k p1) p2)) p3) pos) (dRev T) :=
  wkE (pe_revA he) fun σ H Q ⟨Z, ρ, M, Qd, Rd, G, h⟩ => G.seq (rel1 := Rep X.K) h fun Z1 H1 M1 v x G1 _ rx h1 => by
    cases x with
    | str z => cases rx; exact .inl ⟨z, rfl, sz h1.1, G1.val (.str _) h1.2⟩
    | tup ds => cases rx with
      | tup hz rs => exact .inr ⟨_, _, rfl, SqT.of (G1.h hz), fun p hp => G1.new (o := .tup _) hp (.tup upd_same (rs.reverse.mono (Ex.new (G1.at_.zh.free hp)))) h1⟩
    | _ => exact h1.elim
def mIndex (z : Str) (y : D) (M : Mem) (Q : DQ) : Prop := ∃ b i rest, y = .str b ∧ Builtin.Str.occurrences z b 0 z.length 1 = i :: rest ∧ Q (.int (i : Nat)) M
section
variable {X : Cx} {W : WX} {o e : Expr} {Ta Tb : DTE} {pos apos : Pos}
theorem de_count (ho : DE X W o Ta) (he : DE X W e Tb) (hs : starEach [e] X.env = [(false, eval e X.env)] := by rfl) (hbase : attributeBase o "count" X.env (eval o X.env) = eval o X.env := by rfl) (hline : (apos.endLine == pos.line) = true := by rfl) :
    DE X W (.Call (.Attribute o "count" apos) [e] [] pos) (dM1 mCount Ta Tb) :=
  wkE (pe_m1 PySem.F.slot_str_count PySem.F.type_str_count mt_count ho he hs hbase hline) fun σ H Q h => m1_ok (fun G ry h => by
    obtain ⟨b, rfl, q⟩ := h
    cases ry
    exact ⟨_, b, rfl, rfl, G.val (.int _) q⟩) (fun _ _ _ q => q) (fun _ _ _ q => q) h
theorem de_index (ho : DE X W o Ta) (he : DE X W e Tb) (hs : starEach [e] X.env = [(false, eval e X.env)] := by rfl) (hbase : attributeBase o "index" X.env (eval o X.env) = eval o X.env := by rfl) (hline : (apos.endLine == pos.line) = true := by rfl) :
    DE X W (.Call (.Attribute o "index" apos) [e] [] pos) (dM1 mIndex Ta Tb) :=
  wkE (pe_m1 PySem.F.slot_str_index PySem.F.type_str_index mt_sindex ho he hs hbase hline) fun σ H Q h => m1_ok (fun G ry h => by
    obtain ⟨b, i, rest, rfl, h1, q⟩ := h
    cases ry
    exact ⟨_, b, i, rest, rfl, rfl, h1, G.val (.int _) q⟩) (fun _ _ _ q => q) (fun _ _ _ q => q) h
end
end Dl
namespace Dl
open PySem PySem.Spec PyProof.Rows L2
/-! # A def called through a name; levels -/
def dCallV (i : Nat) (cands : List (Str × DSp)) (a : DTA) : DTE := fun ρ M Q R => ∃ n S, nth ρ i = some (.fn n) ∧ (n, S) ∈ cands ∧ a ρ M (fun xs M1 => S xs M1 Q (fun ex M2 => R ex ρ M2)) R
inductive CV (P : Program) (w : World) (K : PySem.W.Frag) (mg : Str → Option Value) (base : Heap) (j : Nat) : List (Str × DSp) → Prop
  | nil : CV P w K mg base j []
  | cons {n : Str} {k : Nat} {ps : List Str} {S : DSp} {l : List (Str × DSp)} (h : Has P w K mg base n k ps S) (hk : k ≤ j) (r : CV P w K mg base j l) : CV P w K mg base j ((n, S) :: l)
theorem CV.get {P : Program} {w : World} {K : PySem.W.Frag} {mg : Str → Option Value} {base : Heap} {j : Nat} : ∀ {l : List (Str × DSp)}, CV P w K mg base j l → ∀ {n : Str} {S : DSp}, (n, S) ∈ l → ∃ k ps, k ≤ j ∧ Has P w K mg base n k ps S
  | _, .nil, _, _, h => by cases h
  | _, .cons h hk r, n, S, m => by
    rcases List.mem_cons.mp m with e | e
    · cases e; exact ⟨_, _, hk, h⟩
    · exact r.get e
theorem de_callV {X : Cx} {W : WX} {j : Nat} {cands : List (Str × DSp)} {x : Str} {p pos : Pos} {e : Expr} {es : List Expr} {TA : DTA} (i : Nat) (c : CV X.prog X.w X.K X.mg X.base j cands) (hr : Room j X.A) (tk : L2N.Takes X W) (ha : DA X W (e :: es) TA)
    (hN : X.N[i]? = some x := by rfl) (hv : Vis X.env.scope x := by first | exact Or.inl rfl | exact Or.inr (Or.inl rfl) | exact Or.inr (Or.inr rfl))
    (hdb : (x == ("__debug__" : Str)) = false := by decide) (hcd : (x == ("__classdict__" : Str)) = false := by decide) (he : starEach (e :: es) X.env = (false, eval e X.env) :: starEach es X.env := by rfl) (hpl : (backTo pos (starEach es X.env)).any (·.1) = false := by rfl) :
    DE X W (.Call (.Name x p) (e :: es) [] pos) (dCallV i cands TA) := by
  refine ⟨fun pins s σ H Q I h => ?_⟩
  obtain ⟨Z, ρ, M, Qd, Rd, G, n, S, hn, hm, h⟩ := h
  obtain ⟨k, ps, hk, hh⟩ := c.get hm
  obtain ⟨fd, F, hb⟩ := hh.ex
  obtain ⟨v, e1, rv⟩ := G.at_.sl i _ ((nth_eq ρ i _).mp hn)
  cases rv
  refine wpAny_Call_Name_kw (thn ((pe_var (pos := p) (i := i) hN hv hdb hcd).run pins s σ H (fun v H1 => v = .ref (He.ga X.K n) ∧ H1 = H) I ⟨_, e1, rfl, rfl⟩) fun u s1 ⟨v, H1, I1, r1, q1⟩ => ?_)
  obtain ⟨rfl, rfl⟩ := q1
  cases r1
  have ht : lE X.K W (dCall S TA) σ H1 Q := ⟨Z, ρ, M, Qd, Rd, G, h⟩
  have ht2 := call_ok (TA := TA) (t := lA X.K W TA) (fun _ _ _ q => q) ht
  refine PySem.W.callWith_K (h₀ := X.base) I.ok.mod.kin hh.kp (thn (ha.run pos pins s1 σ _ _ I1 ht2) fun us s2 ⟨vs, H2, I2, r, q⟩ => ⟨I2.kIn, ?_⟩) he hpl
  exact run_fnS F (hr.mono hk) hb (L2N.passAt tk σ) I2 r q
def voidS : DSp := fun _ _ _ _ => False
theorem has_void {P : Program} {w : World} {K : PySem.W.Frag} {mg : Str → Option Value} {base : Heap} {x qual : Str} {params : Arguments} {body : List Stmt} {scope : Scope} {ps : List Str}
    (F : ∃ fd, FunD K x qual params body scope [] [] (He.ga K x) fd) (g : mg x = some (.ref (He.ga K x))) (bn : ∀ {fd}, FunD K x qual params body scope [] [] (He.ga K x) fd → L2.Binds K fd ps []) : Has P w K mg base x 0 ps voidS := by
  obtain ⟨fd, F⟩ := F
  exact ⟨⟨fd, ⟨fun vs H Q E h => by obtain ⟨_, _, _, _, _, _, _, z, _⟩ := h; exact z.elim, fun A outer s H args us vs Q E _ _ _ _ h => by obtain ⟨_, _, _, _, _, _, _, z, _⟩ := h; exact z.elim⟩, bn F⟩, g, F.kp⟩
theorem HasErr.mono {P : Program} {w : World} {K : PySem.W.Frag} {mg : Str → Option Value} {base : Heap} {x : Str} {j k : Nat} {word : Str → Option Str} (h : HasErr P w K mg base x j word) (hk : j ≤ k) : HasErr P w K mg base x k word :=
  ⟨fun c l hw A outer s Z H M a oe Q E hr => h.run c l hw A outer s Z H M a oe Q E (hr.mono hk), h.g, h.kp⟩
theorem HasWord.mono {P : Program} {w : World} {K : PySem.W.Frag} {mg : Str → Option Value} {base : Heap} {x : Str} {j k : Nat} {word : Str → Option Str} (h : HasWord P w K mg base x j word) (hk : j ≤ k) : HasWord P w K mg base x k word :=
  ⟨h.ex, h.g, h.kp, h.re, h.names.mono hk, h.wf⟩
theorem de_lamwordK {X : Cx} {W : WX} {word : Str → Option Str} {x n : Str} {j : Nat} {params : Arguments} {body : Expr} {scope : Scope} {T : DTE} {p lpos pos : Pos} (hw : HasWord X.prog X.w X.K X.mg X.base x j word) (k : Nat) (hk : j ≤ k)
    (TB : LamX.TabB X.base X.mg (He.cT X.K (n, none)).1 (He.cT X.K (n, none)).2) (hr : Room (k + 2) X.A)
    (hbody : ∀ (A : Around) (outer : List PySem.Env) (s : Shared) (H : Hp) (E : XK) (f c' : Addr), Room k (A.deeper (LamX.lamEnv X scope s.heap.objs.size f c')) → DE (lamCxN X A outer s H E scope f c') (WD E) body T)
    (hcode : X.env.code = .ref (He.cT X.K (n, none)).1 := by rfl) (hq : X.env.qual ++ "<lambda>" = lamQ n := by rfl) (L : LamX.lamSB X.env.scope scope = true := by rfl) (hdef : defaultsOf params X.env = ([], []) := by rfl)
    (hbind : ∀ (q : Str) (cl : List (Str × Addr)) (pm cv ctv : Value), bindArgs (PySem.W.kla_fn "<lambda>" q params body scope cl pm cv ctv) ⟨[], []⟩ = pure [] := by intro _ _ _ _ _; rfl)
    (hg : Gl X x := by rfl) (hdb : (x == ("__debug__" : Str)) = false := by decide) :
    DE X W (.Call (.Name x p) [.Lambda params body scope lpos] [] pos) (dLamW word n T) :=
  de_lamword (hw.mono hk) TB hcode hq hr (LamX.lamS_by L) hdef hbind hbody hg hdb
end Dl
namespace Dl
open PySem PySem.Spec PyProof.Rows L2
/-! # The words of the errors, as the head tells of their classes -/
def labels : List (Str × Str) := [("InvalidHouse", "house"), ("InvalidCalendar", "calendar"), ("InvalidDay", "day"), ("InvalidNumber", "number"), ("InvalidWeekdays", "week"), ("InvalidSeen", "seen"), ("InvalidSign", "sign"), ("InvalidText", "text"), ("Unlike", "unlike"), ("NothingToUndo", "undo")]
def word (c : Str) : Option Str := (labels.lookup c).map fun l => l ++ (" value" : Str)
def errCls : List Str := ["InvalidHouse", "InvalidCalendar", "InvalidDay", "InvalidNumber", "InvalidWeekdays", "InvalidSeen", "InvalidSign", "InvalidText", "Unlike", "NothingToUndo", "TooMany", "Failed"]
open PySem.W in
def exB (K : PySem.W.Frag) (c : Str) : Bool :=
  decide (findIn K (.ref (He.ga K c)) "__getattribute__" = some (some (.builtin "BaseException.__getattribute__"))) && (decide (findIn K (.ref (He.ga K c)) "__getattr__" = some none) && (decide (subIn K (.ref (He.ga K c)) (.type "BaseException") = some true) &&
    (hasDictIn K (He.ga K c) && (decide (findIn K (.ref (He.ga K c)) "__class__" = some (some (.builtin "object.__class__"))) && (decide (specialIn K (.builtin "object.__class__") "__get__" = some (some (.builtin "getset_descriptor.__get__"))) && (decide (takesIn K (.builtin "object.__class__") = some true) && decide (mroIn K (He.ga K c) (.type "object") = some true)))))))
open PySem.W in
def errB1 (K : PySem.W.Frag) (c : Str) : Bool :=
  exB K c && (decide (exmOne K (.ref (He.ga K c)) (.ref (He.ga K "RoundError")) = some true) && ((errCls.all fun d => decide (kitOne K (.ref (He.ga K c)) (.ref (He.ga K d)) = some (decide (c = d)))) && decide (kitOne K (.ref (He.ga K c)) (.type "ValueError") = some true)))
def errB (K : PySem.W.Frag) : Bool := labels.all fun x => errB1 K x.1
theorem word_mem {c l : Str} (h : word c = some l) : ∃ x, (c, x) ∈ labels ∧ l = x ++ (" value" : Str) := by
  unfold word at h
  cases e : labels.lookup c with
  | none => rw [e] at h; cases h
  | some x =>
    rw [e] at h
    exact ⟨x, PySem.mem_of_lookup e, (Option.some.inj h).symm⟩
structure ErrF (K : PySem.W.Frag) : Prop where
  ec : ∀ c l, word c = some l → ExcC K (He.ga K c)
  em : ∀ c l, word c = some l → PySem.W.exmOne K (.ref (He.ga K c)) (.ref (He.ga K "RoundError")) = some true
  ek : ∀ c l, word c = some l → ∀ d ∈ errCls, PySem.W.kitOne K (.ref (He.ga K c)) (.ref (He.ga K d)) = some (decide (c = d))
  ev : ∀ c l, word c = some l → PySem.W.kitOne K (.ref (He.ga K c)) (.type "ValueError") = some true
theorem errF_of {K : PySem.W.Frag} (h : errB K = true) : ErrF K := by
  have key : ∀ c l, word c = some l → errB1 K c = true := fun c l hw => by
    obtain ⟨x, hx, _⟩ := word_mem hw
    exact List.all_eq_true.mp h _ hx
  refine ⟨fun c l hw => ?_, fun c l hw => ?_, fun c l hw d hd => ?_, fun c l hw => ?_⟩
  all_goals (have z := key c l hw; unfold errB1 at z; obtain ⟨z1, z⟩ := He.ba z; obtain ⟨z2, z⟩ := He.ba z; obtain ⟨z3, z4⟩ := He.ba z)
  · unfold exB at z1
    obtain ⟨a1, z⟩ := He.ba z1
    obtain ⟨a2, z⟩ := He.ba z
    obtain ⟨a3, z⟩ := He.ba z
    obtain ⟨a4, z⟩ := He.ba z
    obtain ⟨a5, z⟩ := He.ba z
    obtain ⟨a6, z⟩ := He.ba z
    obtain ⟨a7, a8⟩ := He.ba z
    exact ⟨of_decide_eq_true a1, of_decide_eq_true a2, of_decide_eq_true a3, a4, of_decide_eq_true a5, of_decide_eq_true a6, of_decide_eq_true a7, of_decide_eq_true a8⟩
  · exact of_decide_eq_true z2
  · exact of_decide_eq_true (List.all_eq_true.mp z3 d hd)
  · exact of_decide_eq_true z4
/-- the tables of the defs ns are known -/
def Tbs (ns : List Str) (M : Mem) : Prop := ∀ n ∈ ns, ∃ p, mget M p = some (.tab n)
theorem mget_of {p : Nat} {o : MO} : ∀ {M : Mem}, (keys M).Nodup → (p, o) ∈ M → mget M p = some o
  | [], _, h => by cases h
  | x :: r, nd, h => by
    have nd' := List.nodup_cons.mp (show (x.1 :: keys r).Nodup from nd)
    unfold mget
    rcases List.mem_cons.mp h with e | e
    · rw [← e, if_pos rfl]
    · rw [if_neg fun z => nd'.1 (by rw [z]; exact List.mem_map.mpr ⟨_, e, rfl⟩)]
      exact mget_of nd'.2 e
theorem wf_of {K : PySem.W.Frag} (e : ErrF K) : WordF K word := ⟨e.em⟩
end Dl
namespace Dl
open PySem PySem.Spec PyProof.Rows L2
/-! # list(text) -/
theorem signs_vals (x : Str) : ∀ (cs : List Nat) (us : List Value), cs.length = us.length → (∀ (j : Nat) (c : Nat) (v : Value), cs[j]? = some c → us[j]? = some v → ∃ t, v = .str ⟨#[c]⟩ t) → Vals (cs.map fun c => V.str ⟨#[c]⟩) us
  | [], [], _, _ => .nil
  | c :: cs, u :: us, h, f => by
    obtain ⟨t, e⟩ := f 0 c u rfl rfl
    exact .cons ⟨t, e⟩ (signs_vals x cs us (by simpa using h) fun j c v h1 h2 => f (j + 1) c v (by simpa using h1) (by simpa using h2))
theorem call_listS {X : Cx} (hc : X.calm = true) : CallR X (.type "list") (fun xs H Q => ∃ z : Str, xs = [.str z] ∧ z.length ≤ sizeLine ∧ ∀ p, H p = none → Q (.ref p) (upd H p (.lst (z.cps.toList.map fun c => V.str ⟨#[c]⟩)))) := by
  intro pins s σ H xs us Q I r h
  obtain ⟨z, rfl, hz, q⟩ := h
  obtain ⟨u, rfl, rx⟩ := Vals.one r
  obtain ⟨t, rfl⟩ := rx
  refine call_list_str (I.ok.hd hc) z t (fun h' tk acc c kp e it => ?_) hz
  have hv : Vals (z.cps.toList.map fun c => V.str ⟨#[c]⟩) acc.toList := by
    refine signs_vals z _ _ (by rw [Array.length_toList, Array.length_toList, it.1]) fun j c v h1 h2 => ?_
    obtain ⟨c', u, e1, e2⟩ := it.2 j v (by rw [← Array.getElem?_toList]; exact h2)
    have e3 : z.cps.toList[j]? = some c' := by rw [Array.getElem?_toList]; exact e1
    rw [h1] at e3
    cases e3
    exact ⟨u, e2⟩
  exact ⟨.ref s.heap.objs.size, _, I.laid (t' := tk) kp (Nat.le_refl _) (show ObjOk X.prog X.w _ h' _ (.lst (z.cps.toList.map fun c => V.str ⟨#[c]⟩)) from ⟨by rw [List.length_map, Array.length_toList]; exact hz, acc.toList, c, hv, e⟩), rfl, q _ (I.hok.fresh (Nat.le_refl _))⟩
def bListS : BF := fun xs M Q => match xs with
  | [.str z] => z.length ≤ 100000 ∧ Q (.lst (chD z)) M
  | _ => False
theorem cd_listS {K : PySem.W.Frag} : CallD K (fun xs H Q => ∃ z : Str, xs = [.str z] ∧ z.length ≤ sizeLine ∧ ∀ p, H p = none → Q (.ref p) (upd H p (.lst (z.cps.toList.map fun c => V.str ⟨#[c]⟩)))) bListS := by
  intro W σ ρ Z H M Qd Rd Q vs xs G rs h
  cases rs with
  | nil => exact h.elim
  | cons r rr =>
    cases rr with
    | cons _ _ => cases r <;> exact h.elim
    | nil =>
      cases r <;> first | exact h.elim | skip
      exact ⟨_, rfl, sz h.1, fun p hp => G.new (o := .lst _) hp (.lst upd_same (repL_ch _)) h.2⟩
end Dl
namespace Dl
open PySem L2
/-! # x + y of lists, to be changed yet -/
def oCatM : D → D → Mem → DQ → Prop
  | .lst i, .lst j, M, Q => i.length + j.length ≤ 100000 ∧ ∀ p, p ∉ keys M → Q (.obj p) ((p, .lst (i ++ j)) :: M)
  | _, _, _, _ => False
theorem od_catM {K : PySem.W.Frag} : OpD K (rAddU K) oCatM := by
  intro W σ ρ Z H M Qd Rd Q v w x y G rx ry h
  cases x <;> cases y <;> first | exact h.elim | skip
  cases rx with
  | lst hz rs =>
    cases ry with
    | lst hz2 rs2 =>
      exact .inr (.inr (.inl ⟨_, _, _, _, rfl, rfl, G.h hz, G.h hz2, by rw [rs.length, rs2.length]; exact sz h.1, fun p hp => G.newM (o := .lst _) (m := .lst _) hp ⟨_, upd_same, rs.append rs2⟩ (.obj p) (h.2 p)⟩))
end Dl
namespace Dl
open PySem
/-! # Reasoning over transformers -/
theorem fg_self {M : Mem} {P : Mem → Prop} (h : P M) : Fg M P := ⟨M, .refl M, h⟩
theorem fg_drop {M : Mem} {P : Mem → Prop} {p : Nat × MO} (h : Fg M P) : Fg (p :: M) P := let ⟨M', s, q⟩ := h; ⟨M', .cons _ s, q⟩
/-- a comprehension whose elements change nothing -/
theorem lc_pure {g : DTG} {tt : DTT} {te : DTE} {ρ : Env} {M : Mem} {Q : DQ} (c : D → Bool) (f : D → D) : ∀ (ds acc : List D),
    (∀ d ∈ ds, ∀ (k1 : DQ) (k2 : Mem → Prop), (c d = true → k1 (f d) M) → (c d = false → k2 M) → g d ρ M fun ρ1 M1 => tt ρ1 M1 (fun b M2 => if b = true then te ρ1 M2 k1 noR else k2 M2) noR) →
    Q (.lst (acc ++ (ds.filter c).map f)) M → dLcL g tt te ρ Q ds acc M
  | [], acc, _, q => by simpa [dLcL] using q
  | d :: ds, acc, h, q => by
    unfold dLcL
    refine h d (List.mem_cons_self ..) _ _ (fun hc => ?_) fun hc => ?_
    · refine lc_pure c f ds _ (fun e he => h e (List.mem_cons_of_mem _ he)) ?_
      rw [List.filter_cons_of_pos hc] at q
      simpa using q
    · refine lc_pure c f ds _ (fun e he => h e (List.mem_cons_of_mem _ he)) ?_
      rw [List.filter_cons_of_neg (by rw [hc]; exact Bool.false_ne_true)] at q
      exact q
theorem lc_map {g : DTG} {te : DTE} {ρ : Env} {M : Mem} {Q : DQ} (f : D → D) (ds : List D) (h : ∀ d ∈ ds, ∀ k : DQ, k (f d) M → g d ρ M fun ρ1 M1 => te ρ1 M1 k noR) (q : Q (.lst (ds.map f)) M) : dLcL g dYes te ρ Q ds [] M :=
  lc_pure (fun _ => true) f ds [] (fun d hd k1 k2 h1 _ => by simpa [dYes] using h d hd k1 (h1 rfl)) (by rw [List.filter_eq_self.mpr (fun _ _ => rfl)]; simpa using q)
/-- a loop by its invariant -/
theorem loop_inv {g : DTG} {t : DTS} {E : DEnds} {R : DR} (I : Nat → Env → Mem → Prop) (ds : List D) {ρ : Env} {M : Mem} (h0 : I 0 ρ M)
    (hs : ∀ (i : Nat) (d : D) (ρ : Env) (M : Mem) (N : Env → Mem → Prop), ds[i]? = some d → I i ρ M → (∀ ρ' M', I (i + 1) ρ' M' → N ρ' M') → g d ρ M fun ρ1 M1 => t { nx := N, rt := E.rt, bk := E.nx, ct := N } ρ1 M1 R)
    (hd : ∀ ρ M, I ds.length ρ M → E.nx ρ M) : dLoop g t E R ds ρ M := by
  suffices h : ∀ (k i : Nat) (ρ : Env) (M : Mem), i + k = ds.length → I i ρ M → dLoop g t E R (ds.drop i) ρ M from by simpa using h ds.length 0 ρ M (by omega) h0
  intro k
  induction k with
  | zero =>
    intro i ρ M hi hI
    have e : i = ds.length := by omega
    subst e
    rw [List.drop_length]
    exact hd ρ M hI
  | succ k ih =>
    intro i ρ M hi hI
    have hl : i < ds.length := by omega
    rw [List.drop_eq_getElem_cons hl]
    exact hs i ds[i] ρ M _ (List.getElem?_eq_getElem hl) hI fun ρ' M' h' => ih (i + 1) ρ' M' (by omega) h'
theorem while_inv {c : DTT} {t : DTS} {E : DEnds} {R : DR} (I : Nat → Env → Mem → Prop) {m : Nat} {ρ : Env} {M : Mem} (h0 : I m ρ M)
    (hs : ∀ (m : Nat) (ρ : Env) (M : Mem) (N : Env → Mem → Prop), I m ρ M → (∀ m' ρ' M', m' < m → I m' ρ' M' → N ρ' M') → c ρ M (fun b M1 => if b = true then t { nx := N, rt := E.rt, bk := E.nx, ct := N } ρ M1 R else E.nx ρ M1) R) : dWhile c t E ρ M R := by
  refine ⟨m + 1, ?_⟩
  suffices h : ∀ (n m : Nat) (ρ : Env) (M : Mem), m < n → I m ρ M → dWh c t E R n ρ M from h (m + 1) m ρ M (Nat.lt_succ_self m) h0
  intro n
  induction n with
  | zero => intro m ρ M h; omega
  | succ n ih =>
    intro m ρ M h hI
    exact hs m ρ M _ hI fun m' ρ' M' hm h' => ih m' ρ' M' (by omega) h'
/-! ### weekdays, houses -/
/-- the figure of a weekday -/
def fg (d : Nat) : Str := ⟨#[48 + d]⟩
def wk (l : List Nat) : Str := ⟨(l.map fun d => 48 + d).toArray⟩
theorem wk_length (l : List Nat) : (wk l).length = l.length := by simp [wk, Str.length]
theorem wk_ch (l : List Nat) : chD (wk l) = l.map fun d => D.str (fg d) := by simp [chD, wk, fg]
structure Hs where
  work : List Nat
  run : List Nat
  speed : Nat
def Hs.d (h : Hs) : D := .tup [.str (wk h.work), .str (wk h.run), .int h.speed]
/-- ascending weekdays -/
def Asc (l : List Nat) : Prop := l.Pairwise (· < ·) ∧ ∀ d ∈ l, d < 7
structure Hs.Ok (h : Hs) : Prop where
  aw : Asc h.work
  ar : Asc h.run
  w0 : h.work ≠ []
  r0 : h.run ≠ []
  s1 : 1 ≤ h.speed
  s3 : h.speed ≤ 3
  fit : h.work.length ≤ h.speed * h.run.length
instance (l : List Nat) : Decidable (Asc l) := by unfold Asc; exact inferInstance
def Hs.okB (h : Hs) : Bool := decide (Asc h.work) && decide (Asc h.run) && !h.work.isEmpty && !h.run.isEmpty && decide (1 ≤ h.speed) && decide (h.speed ≤ 3) && decide (h.work.length ≤ h.speed * h.run.length)
theorem Hs.ok_of {h : Hs} (e : h.okB = true) : h.Ok := by
  unfold Hs.okB at e
  simp only [Bool.and_eq_true, decide_eq_true_eq, Bool.not_eq_true', List.isEmpty_eq_false_iff] at e
  obtain ⟨⟨⟨⟨⟨⟨h1, h2⟩, h3⟩, h4⟩, h5⟩, h6⟩, h7⟩ := e
  exact ⟨h1, h2, h3, h4, h5, h6, h7⟩
theorem asc_len : ∀ {l : List Nat} {n m : Nat}, l.Pairwise (· < ·) → (∀ d ∈ l, n ≤ d ∧ d < m) → n ≤ m → l.length + n ≤ m
  | [], n, m, _, _, h => by simpa using h
  | d :: l, n, m, p, h, _ => by
    obtain ⟨p1, p2⟩ := List.pairwise_cons.mp p
    obtain ⟨h1, h2⟩ := h d (List.mem_cons_self ..)
    have := asc_len (n := d + 1) (m := m) p2 (fun e he => ⟨p1 e he, (h e (List.mem_cons_of_mem _ he)).2⟩) h2
    rw [List.length_cons]; omega
theorem Asc.len {l : List Nat} (a : Asc l) : l.length ≤ 7 := asc_len (n := 0) a.1 (fun d hd => ⟨Nat.zero_le _, a.2 d hd⟩) (Nat.zero_le _)
end Dl
namespace Dl
open PySem
/-! # houses: what its defs promise, over typed data -/
theorem at_fig {n : Nat} (h : n < 7) : L2.atI ("0123456" : Str).cps.toList (n : Int) = some (48 + n) := by
  have e : n = 0 ∨ n = 1 ∨ n = 2 ∨ n = 3 ∨ n = 4 ∨ n = 5 ∨ n = 6 := by omega
  rcases e with e | e | e | e | e | e | e <;> (subst e; decide)
def md7 (day : Int) : Nat := (day % 7).toNat
theorem md7_lt (day : Int) : md7 day < 7 := by unfold md7; omega
theorem md7_cast (day : Int) : ((md7 day : Nat) : Int) = day % 7 := by unfold md7; omega
def S_figure_of : DSp := fun ds M Q R => ∃ day : Int, ds = [.int day] ∧ Q (.str (fg (md7 day))) M
def t_figure_of : DTS := dRet (dOp dIx (dC (.str ("0123456" : Str))) (dOp oMod (dVar 0) (dC (.int 7))))
theorem kp_figure_of : Keeps S_figure_of 1 t_figure_of := by
  rintro ds M Q R ⟨day, rfl, q⟩
  simp only [t_figure_of, dVar, dC, dOp, dUn, dTst, dAnd, dOr, dNot, dAndV, dOrV, dNotV, dIfE, dNil, dCons, dTup, dLst, dNew, dCall, dB, dChain, dNext, dSeq, dDrop, dRet, dRetN, dIf, dAsg, gN, gSeq, gT, dPar2, dPar3, dAug, dRaise, dFor, dYes, dLc, dels, del, put, nth, startN, dFrz, dIx, dPart, dNoP, dSl, dApp, dPut, dM1, dFmt, dJs, dJoined, dIsi, dRg1, dRg2, dLsI, dTpI, dStI, dZip, dEnL, dLsRg1, dLsRg2, dNewK, dNewT, dOneT, dSetSort, dLsZip, dNewCan, oAdd, oSub, oMul, oDiv, oMod, oPow, oLt, oLe, oGt, oGe, oIs, oIsNot, oNeg, oIAdd, D.isN, bLen, bInt, bStr, bAbs, bBool, bList, bTuple, D.ty, D.isInt, D.isBool, D.isStr, D.isTup, D.isLst, List.map_cons, List.map_nil, List.length_cons, List.length_nil, List.replicate_succ, List.replicate_zero, List.cons_append, List.nil_append, Option.isSome_some, if_true, if_false, Bool.false_eq_true, reduceIte, Nat.reduceAdd, Nat.reduceSub, Bool.not_true, Bool.not_false, true_and, and_true]
  refine ⟨by decide, _, _, by decide, rfl, ?_, fg_self q⟩
  rw [← md7_cast]; exact at_fig (md7_lt day)
/-- a figure in a text of weekdays -/
theorem fg_mem {d : Nat} {l : List Nat} : (48 + d) ∈ (wk l).cps.toList ↔ d ∈ l := by
  simp [wk]
theorem in_wk (d : Nat) (l : List Nat) (M : Mem) (Q : DQ) (n : Bool) (q : Q (.bl (xor n (decide (d ∈ l)))) M) : qIn n (.str (fg d)) (.str (wk l)) M Q := by
  refine ⟨48 + d, rfl, ?_⟩
  rw [decide_eq_decide.mpr (fg_mem (d := d) (l := l))]; exact q
theorem at_wk {l : List Nat} {i : Nat} {d : Nat} (h : l[i]? = some d) : L2.atI (wk l).cps.toList (i : Int) = some (48 + d) := by
  have hi := (List.getElem?_eq_some_iff.mp h).1
  unfold L2.atI L2.ixN
  have e : (wk l).cps.toList = l.map fun d => 48 + d := by simp [wk]
  rw [e, List.length_map, if_pos (by omega), if_pos (by omega)]
  show (l.map fun d => 48 + d)[((i : Int)).toNat]? = _
  rw [List.getElem?_map, Int.toNat_natCast, h]; rfl
theorem lt_fg (a b : Nat) : decide ((fg a).cps.toList < (fg b).cps.toList) = decide (a < b) := by
  apply decide_eq_decide.mpr
  simp [fg, List.cons_lt_cons_iff]
/-- rounds ahead of a day -/
def rb (h : Hs) (day : Int) : Int := day / 7 * h.work.length + (h.work.filter fun d => decide (d < md7 day)).length
def S_rounds_before : DSp := fun ds M Q R => ∃ (h : Hs) (day : Int), h.Ok ∧ ds = [h.d, .int day] ∧ Q (.int (rb h day)) M
def t_rounds_before : DTS := dRet (dOp oAdd (dOp oMul (dOp oDiv (dVar 1) (dC (.int 7))) (dB bLen (dCons (dOp dIx (dVar 0) (dC (.int 0))) (dNil)))) (dB bLen (dCons (dLc [2] (dStI (dOp dIx (dVar 0) (dC (.int 0)))) (gN 2) (dTst (dOp oLt (dVar 2) (dCall S_figure_of (dCons (dVar 1) (dNil))))) (dVar 2)) (dNil))))
theorem small_of {i : Int} (h1 : -1000000 ≤ i) (h2 : i ≤ 1000000) : small64 i := ⟨by omega, by omega⟩
theorem ix0 (a b c : D) : L2.atI [a, b, c] 0 = some a := rfl
theorem ix1 (a b c : D) : L2.atI [a, b, c] 1 = some b := rfl
theorem ix2 (a b c : D) : L2.atI [a, b, c] 2 = some c := rfl
/-- the filter of the figures -/
theorem filt_fg (l : List Nat) (p : Nat → Bool) (c : D → Bool) (hc : ∀ d ∈ l, c (.str (fg d)) = p d) : ((l.map fun d => D.str (fg d)).filter c).map (fun x => x) = (l.filter p).map fun d => D.str (fg d) := by
  induction l with
  | nil => rfl
  | cons a l ih =>
    have h1 := hc a (List.mem_cons_self ..)
    have h2 := ih fun d hd => hc d (List.mem_cons_of_mem _ hd)
    rw [List.map_cons]
    by_cases hp : p a = true
    · rw [List.filter_cons_of_pos (by rw [h1]; exact hp), List.filter_cons_of_pos hp, List.map_cons, List.map_cons, h2]
    · rw [List.filter_cons_of_neg (by rw [h1]; exact hp), List.filter_cons_of_neg hp, h2]
/-- the number of a figure -/
def D.fig : D → Nat
  | .str z => (z.cps.toList.headD 0) - 48
  | _ => 0
theorem fig_fg (d : Nat) : (D.str (fg d)).fig = d := by simp [D.fig, fg]
theorem kp_rounds_before : Keeps S_rounds_before 3 t_rounds_before := by
  rintro ds M Q R ⟨h, day, ok, rfl, q⟩
  have hw := ok.aw.len
  simp only [t_rounds_before, dVar, dC, dOp, dUn, dTst, dAnd, dOr, dNot, dAndV, dOrV, dNotV, dIfE, dNil, dCons, dTup, dLst, dNew, dCall, dB, dChain, dNext, dSeq, dDrop, dRet, dRetN, dIf, dAsg, gN, gSeq, gT, dPar2, dPar3, dAug, dRaise, dFor, dYes, dLc, dels, del, put, nth, startN, dFrz, dIx, dPart, dNoP, dSl, dApp, dPut, dM1, dFmt, dJs, dJoined, dIsi, dRg1, dRg2, dLsI, dTpI, dStI, dZip, dEnL, dLsRg1, dLsRg2, dNewK, dNewT, dOneT, dSetSort, dLsZip, dNewCan, oAdd, oSub, oMul, oDiv, oMod, oPow, oLt, oLe, oGt, oGe, oIs, oIsNot, oNeg, oIAdd, D.isN, bLen, bInt, bStr, bAbs, bBool, bList, bTuple, D.ty, D.isInt, D.isBool, D.isStr, D.isTup, D.isLst, List.map_cons, List.map_nil, List.length_cons, List.length_nil, List.replicate_succ, List.replicate_zero, List.cons_append, List.nil_append, Option.isSome_some, if_true, if_false, Bool.false_eq_true, reduceIte, Nat.reduceAdd, Nat.reduceSub, Bool.not_true, Bool.not_false, true_and, and_true, Hs.d]
  refine ⟨⟨by decide, by decide⟩, _, _, rfl, ix0 .., ?_⟩
  refine ⟨by rw [wk_length]; omega, ⟨.inr (small_of (by rw [wk_length]; omega) (by rw [wk_length]; omega)), _, _, rfl, ix0 .., _, rfl, by rw [wk_ch, List.length_map]; omega, ?_⟩⟩
  rw [wk_ch]
  refine lc_pure (fun x => decide (x.fig < md7 day)) (fun x => x) _ _ (fun x hx k1 k2 h1 h2 => ?_) ?_
  · obtain ⟨d, hd, rfl⟩ := List.mem_map.mp hx
    simp only [dVar, dC, dOp, dUn, dTst, dAnd, dOr, dNot, dAndV, dOrV, dNotV, dIfE, dNil, dCons, dTup, dLst, dNew, dCall, dB, dChain, dNext, dSeq, dDrop, dRet, dRetN, dIf, dAsg, gN, gSeq, gT, dPar2, dPar3, dAug, dRaise, dFor, dYes, dLc, dels, del, put, nth, startN, dFrz, dIx, dPart, dNoP, dSl, dApp, dPut, dM1, dFmt, dJs, dJoined, dIsi, dRg1, dRg2, dLsI, dTpI, dStI, dZip, dEnL, dLsRg1, dLsRg2, dNewK, dNewT, dOneT, dSetSort, dLsZip, dNewCan, oAdd, oSub, oMul, oDiv, oMod, oPow, oLt, oLe, oGt, oGe, oIs, oIsNot, oNeg, oIAdd, D.isN, bLen, bInt, bStr, bAbs, bBool, bList, bTuple, D.ty, D.isInt, D.isBool, D.isStr, D.isTup, D.isLst, List.map_cons, List.map_nil, List.length_cons, List.length_nil, List.replicate_succ, List.replicate_zero, List.cons_append, List.nil_append, Option.isSome_some, if_true, if_false, Bool.false_eq_true, reduceIte, Nat.reduceAdd, Nat.reduceSub, Bool.not_true, Bool.not_false, true_and, and_true]
    refine ⟨day, rfl, ?_⟩
    dsimp only
    rw [lt_fg]
    rw [fig_fg] at h1 h2
    by_cases hl : d < md7 day
    · rw [decide_eq_true hl] at h1 ⊢; exact h1 rfl
    · rw [decide_eq_false hl] at h2 ⊢; exact h2 rfl
  · rw [List.nil_append, filt_fg _ (fun d => decide (d < md7 day)) _ (fun d _ => by rw [fig_fg])]
    dsimp only
    rw [List.length_map, wk_length]
    exact fg_self q
/-- the day of a round -/
def dayBy (h : Hs) (n : Int) : Int := n / h.work.length * 7 + (h.work.getD (n % h.work.length).toNat 0 : Nat)
def S_day_by : DSp := fun ds M Q R => ∃ (h : Hs) (n : Int), h.Ok ∧ ds = [h.d, .int n] ∧ Q (.int (dayBy h n)) M
def t_day_by : DTS := dSeq (dAsg (dOp dIx (dVar 0) (dC (.int 0))) (gN 2)) (dRet (dOp oAdd (dOp oMul (dOp oDiv (dVar 1) (dB bLen (dCons (dVar 2) (dNil)))) (dC (.int 7))) (dB bInt (dCons (dOp dIx (dVar 2) (dOp oMod (dVar 1) (dB bLen (dCons (dVar 2) (dNil))))) (dNil)))))
theorem int_fg {d : Nat} (h : d < 7) : PySem.intText? (fg d) = some (d : Int) := by
  have e : d = 0 ∨ d = 1 ∨ d = 2 ∨ d = 3 ∨ d = 4 ∨ d = 5 ∨ d = 6 := by omega
  rcases e with e | e | e | e | e | e | e <;> (subst e; decide +kernel)
theorem kp_day_by : Keeps S_day_by 3 t_day_by := by
  rintro ds M Q R ⟨h, n, ok, rfl, q⟩
  have hw := ok.aw.len
  have h0 : 0 < h.work.length := List.length_pos_iff.mpr ok.w0
  have hm : (n % h.work.length).toNat < h.work.length := by
    have := Int.emod_lt_of_pos n (show (0 : Int) < h.work.length by omega)
    have := Int.emod_nonneg n (show (h.work.length : Int) ≠ 0 by omega)
    omega
  have hc : (((n % h.work.length).toNat : Nat) : Int) = n % h.work.length := by
    have := Int.emod_nonneg n (show (h.work.length : Int) ≠ 0 by omega)
    omega
  have hg : h.work[(n % h.work.length).toNat]? = some (h.work.getD (n % h.work.length).toNat 0) := by
    rw [List.getD_eq_getElem?_getD, List.getElem?_eq_getElem hm]; rfl
  have hd : h.work.getD (n % h.work.length).toNat 0 < 7 := ok.aw.2 _ (List.mem_of_getElem? hg)
  simp only [t_day_by, dVar, dC, dOp, dUn, dTst, dAnd, dOr, dNot, dAndV, dOrV, dNotV, dIfE, dNil, dCons, dTup, dLst, dNew, dCall, dB, dChain, dNext, dSeq, dDrop, dRet, dRetN, dIf, dAsg, gN, gSeq, gT, dPar2, dPar3, dAug, dRaise, dFor, dYes, dLc, dels, del, put, nth, startN, dFrz, dIx, dPart, dNoP, dSl, dApp, dPut, dM1, dFmt, dJs, dJoined, dIsi, dRg1, dRg2, dLsI, dTpI, dStI, dZip, dEnL, dLsRg1, dLsRg2, dNewK, dNewT, dOneT, dSetSort, dLsZip, dNewCan, oAdd, oSub, oMul, oDiv, oMod, oPow, oLt, oLe, oGt, oGe, oIs, oIsNot, oNeg, oIAdd, D.isN, bLen, bInt, bStr, bAbs, bBool, bList, bTuple, D.ty, D.isInt, D.isBool, D.isStr, D.isTup, D.isLst, List.map_cons, List.map_nil, List.length_cons, List.length_nil, List.replicate_succ, List.replicate_zero, List.cons_append, List.nil_append, Option.isSome_some, if_true, if_false, Bool.false_eq_true, reduceIte, Nat.reduceAdd, Nat.reduceSub, Bool.not_true, Bool.not_false, true_and, and_true, Hs.d]
  refine ⟨_, _, rfl, ix0 .., ?_⟩
  refine ⟨by rw [wk_length]; omega, ⟨by rw [wk_length]; omega, by rw [wk_length]; omega⟩, .inr (small_of (by omega) (by omega)), by rw [wk_length]; omega, by rw [wk_length]; omega, _, 48 + h.work.getD (n % h.work.length).toNat 0, by rw [wk_length]; omega, rfl, ?_, ?_⟩
  · rw [wk_length, ← hc]; exact at_wk hg
  · refine ⟨_, int_fg hd, (by show 1 ≤ 640; decide), ?_⟩
    rw [wk_length]; exact fg_self q
/-- how many rounds begin to wait -/
def bo (h : Hs) (day : Int) : Int := if md7 day ∈ h.work then 1 else 0
def S_begins_on : DSp := fun ds M Q R => ∃ (h : Hs) (day : Int), h.Ok ∧ ds = [h.d, .int day] ∧ Q (.int (bo h day)) M
def t_begins_on : DTS := dRet (dB bInt (dCons (dOp (qIn false) (dCall S_figure_of (dCons (dVar 1) (dNil))) (dOp dIx (dVar 0) (dC (.int 0)))) (dNil)))
theorem kp_begins_on : Keeps S_begins_on 2 t_begins_on := by
  rintro ds M Q R ⟨h, day, ok, rfl, q⟩
  simp only [t_begins_on, dVar, dC, dOp, dUn, dTst, dAnd, dOr, dNot, dAndV, dOrV, dNotV, dIfE, dNil, dCons, dTup, dLst, dNew, dCall, dB, dChain, dNext, dSeq, dDrop, dRet, dRetN, dIf, dAsg, gN, gSeq, gT, dPar2, dPar3, dAug, dRaise, dFor, dYes, dLc, dels, del, put, nth, startN, dFrz, dIx, dPart, dNoP, dSl, dApp, dPut, dM1, dFmt, dJs, dJoined, dIsi, dRg1, dRg2, dLsI, dTpI, dStI, dZip, dEnL, dLsRg1, dLsRg2, dNewK, dNewT, dOneT, dSetSort, dLsZip, dNewCan, oAdd, oSub, oMul, oDiv, oMod, oPow, oLt, oLe, oGt, oGe, oIs, oIsNot, oNeg, oIAdd, D.isN, bLen, bInt, bStr, bAbs, bBool, bList, bTuple, D.ty, D.isInt, D.isBool, D.isStr, D.isTup, D.isLst, List.map_cons, List.map_nil, List.length_cons, List.length_nil, List.replicate_succ, List.replicate_zero, List.cons_append, List.nil_append, Option.isSome_some, if_true, if_false, Bool.false_eq_true, reduceIte, Nat.reduceAdd, Nat.reduceSub, Bool.not_true, Bool.not_false, true_and, and_true, Hs.d]
  refine ⟨day, rfl, _, _, rfl, ix0 .., in_wk _ _ _ _ _ ?_⟩
  dsimp only
  unfold bo at q
  by_cases hm : md7 day ∈ h.work
  · rw [if_pos hm] at q; rw [decide_eq_true hm]; exact fg_self q
  · rw [if_neg hm] at q; rw [decide_eq_false hm]; exact fg_self q
/-- how many can be done -/
def mdn (h : Hs) (day : Int) (hol : Bool) : Int := if md7 day ∈ h.run ∧ hol = false then h.speed else 0
def S_most_done : DSp := fun ds M Q R => ∃ (h : Hs) (day : Int) (hol : Bool), h.Ok ∧ ds = [h.d, .int day, .bl hol] ∧ Q (.int (mdn h day hol)) M
def t_most_done : DTS := dRet (dIfE (dAnd (dTst (dOp (qIn false) (dCall S_figure_of (dCons (dVar 1) (dNil))) (dOp dIx (dVar 0) (dC (.int 1))))) (dNot (dTst (dVar 2)))) (dOp dIx (dVar 0) (dC (.int 2))) (dC (.int 0)))
theorem kp_most_done : Keeps S_most_done 3 t_most_done := by
  rintro ds M Q R ⟨h, day, hol, ok, rfl, q⟩
  simp only [t_most_done, dVar, dC, dOp, dUn, dTst, dAnd, dOr, dNot, dAndV, dOrV, dNotV, dIfE, dNil, dCons, dTup, dLst, dNew, dCall, dB, dChain, dNext, dSeq, dDrop, dRet, dRetN, dIf, dAsg, gN, gSeq, gT, dPar2, dPar3, dAug, dRaise, dFor, dYes, dLc, dels, del, put, nth, startN, dFrz, dIx, dPart, dNoP, dSl, dApp, dPut, dM1, dFmt, dJs, dJoined, dIsi, dRg1, dRg2, dLsI, dTpI, dStI, dZip, dEnL, dLsRg1, dLsRg2, dNewK, dNewT, dOneT, dSetSort, dLsZip, dNewCan, oAdd, oSub, oMul, oDiv, oMod, oPow, oLt, oLe, oGt, oGe, oIs, oIsNot, oNeg, oIAdd, D.isN, bLen, bInt, bStr, bAbs, bBool, bList, bTuple, D.ty, D.isInt, D.isBool, D.isStr, D.isTup, D.isLst, List.map_cons, List.map_nil, List.length_cons, List.length_nil, List.replicate_succ, List.replicate_zero, List.cons_append, List.nil_append, Option.isSome_some, if_true, if_false, Bool.false_eq_true, reduceIte, Nat.reduceAdd, Nat.reduceSub, Bool.not_true, Bool.not_false, true_and, and_true, Hs.d]
  refine ⟨day, rfl, _, _, rfl, ix1 .., in_wk _ _ _ _ _ ?_⟩
  unfold mdn at q
  by_cases hm : md7 day ∈ h.run
  · rw [decide_eq_true hm]
    cases hol with
    | false => rw [if_pos ⟨hm, rfl⟩] at q; exact ⟨_, _, rfl, ix2 .., fg_self q⟩
    | true => rw [if_neg (fun z => Bool.noConfusion z.2)] at q; exact fg_self q
  · rw [decide_eq_false hm]
    rw [if_neg (fun z => hm z.1)] at q
    exact fg_self q
/-- how many wait at the end of a day -/
def wb (h : Hs) (day waits : Int) (hol : Bool) : Int := waits + bo h day - min (waits + bo h day) (mdn h day hol)
def S_waits_behind : DSp := fun ds M Q R => ∃ (h : Hs) (day waits : Int) (hol : Bool), h.Ok ∧ ds = [h.d, .int day, .int waits, .bl hol] ∧ Q (.int (wb h day waits hol)) M
def t_waits_behind : DTS := dSeq (dAsg (dOp oAdd (dVar 2) (dCall S_begins_on (dCons (dVar 0) (dCons (dVar 1) (dNil))))) (gN 4)) (dRet (dOp oSub (dVar 4) (dB bMin (dCons (dVar 4) (dCons (dCall S_most_done (dCons (dVar 0) (dCons (dVar 1) (dCons (dVar 3) (dNil))))) (dNil))))))
theorem min_if (a b : Int) : (if b < a then b else a) = min a b := by
  by_cases h : b < a
  · rw [if_pos h]; omega
  · rw [if_neg h]; omega
theorem max_if (a b : Int) : (if b > a then b else a) = max a b := by
  by_cases h : b > a
  · rw [if_pos h]; omega
  · rw [if_neg h]; omega
theorem kp_waits_behind : Keeps S_waits_behind 5 t_waits_behind := by
  rintro ds M Q R ⟨h, day, waits, hol, ok, rfl, q⟩
  simp only [t_waits_behind, dVar, dC, dOp, dUn, dTst, dAnd, dOr, dNot, dAndV, dOrV, dNotV, dIfE, dNil, dCons, dTup, dLst, dNew, dCall, dB, dChain, dNext, dSeq, dDrop, dRet, dRetN, dIf, dAsg, gN, gSeq, gT, dPar2, dPar3, dAug, dRaise, dFor, dYes, dLc, dels, del, put, nth, startN, dFrz, dIx, dPart, dNoP, dSl, dApp, dPut, dM1, dFmt, dJs, dJoined, dIsi, dRg1, dRg2, dLsI, dTpI, dStI, dZip, dEnL, dLsRg1, dLsRg2, dNewK, dNewT, dOneT, dSetSort, dLsZip, dNewCan, oAdd, oSub, oMul, oDiv, oMod, oPow, oLt, oLe, oGt, oGe, oIs, oIsNot, oNeg, oIAdd, D.isN, bLen, bInt, bStr, bAbs, bBool, bList, bTuple, D.ty, D.isInt, D.isBool, D.isStr, D.isTup, D.isLst, List.map_cons, List.map_nil, List.length_cons, List.length_nil, List.replicate_succ, List.replicate_zero, List.cons_append, List.nil_append, Option.isSome_some, if_true, if_false, Bool.false_eq_true, reduceIte, Nat.reduceAdd, Nat.reduceSub, Bool.not_true, Bool.not_false, true_and, and_true]
  refine ⟨h, day, ok, rfl, ⟨h, day, hol, ok, rfl, ?_⟩⟩
  simp only [bMin]
  rw [min_if]
  exact fg_self q
/-! ### what a value is -/
def D.inB (lo hi : Int) : D → Bool
  | .int i => decide (lo ≤ i) && decide (i ≤ hi)
  | _ => false
def S_is_integer : DSp := fun ds M Q R => ∃ (x : D) (lo hi : Int), x.ty.isSome = true ∧ ds = [x, .int lo, .int hi] ∧ Q (.bl (x.inB lo hi)) M
def t_is_integer : DTS := dRet (dAndV (dIsi D.isInt (dVar 0)) (dAndV (dNotV (dIsi D.isBool (dVar 0))) (dChain oLe oLe (dVar 1) (dVar 0) (dVar 2))))
theorem kp_is_integer : Keeps S_is_integer 3 t_is_integer := by
  rintro ds M Q R ⟨x, lo, hi, ht, rfl, q⟩
  cases x <;> simp only [t_is_integer, dVar, dC, dOp, dUn, dTst, dAnd, dOr, dNot, dAndV, dOrV, dNotV, dIfE, dNil, dCons, dTup, dLst, dNew, dCall, dB, dChain, dNext, dSeq, dDrop, dRet, dRetN, dIf, dAsg, gN, gSeq, gT, dPar2, dPar3, dAug, dRaise, dFor, dYes, dLc, dels, del, put, nth, startN, dFrz, dIx, dPart, dNoP, dSl, dApp, dPut, dM1, dFmt, dJs, dJoined, dIsi, dRg1, dRg2, dLsI, dTpI, dStI, dZip, dEnL, dLsRg1, dLsRg2, dNewK, dNewT, dOneT, dSetSort, dLsZip, dNewCan, oAdd, oSub, oMul, oDiv, oMod, oPow, oLt, oLe, oGt, oGe, oIs, oIsNot, oNeg, oIAdd, D.isN, bLen, bInt, bStr, bAbs, bBool, bList, bTuple, D.ty, D.isInt, D.isBool, D.isStr, D.isTup, D.isLst, List.map_cons, List.map_nil, List.length_cons, List.length_nil, List.replicate_succ, List.replicate_zero, List.cons_append, List.nil_append, Option.isSome_some, if_true, if_false, Bool.false_eq_true, reduceIte, Nat.reduceAdd, Nat.reduceSub, Bool.not_true, Bool.not_false, true_and, and_true, D.inB] at ht q ⊢
  all_goals first | exact fg_self q | (exact absurd ht (by decide)) | skip
  rename_i i
  by_cases h1 : lo ≤ i
  · rw [decide_eq_true h1] at q ⊢; rw [Bool.true_and] at q; rw [if_pos rfl]; exact fg_self q
  · rw [decide_eq_false h1] at q ⊢; rw [Bool.false_and] at q; rw [if_neg Bool.false_ne_true]; exact fg_self q
end Dl
namespace Dl
open PySem
/-! # what a value is -/
/-- each one below the next -/
def ascB : List Nat → Bool
  | a :: b :: l => decide (a < b) && ascB (b :: l)
  | _ => true
def figs : List Nat := ("0123456" : Str).cps.toList
def wkZ (z : Str) : Bool := z.cps.toList.all (fun c => decide (c ∈ figs)) && ascB z.cps.toList
def D.wkB : D → Bool
  | .str z => wkZ z
  | _ => false
/-- a value of the kinds that occur, no long text -/
def D.fine (x : D) : Prop := x.ty.isSome = true ∧ ∀ z, x = .str z → z.length ≤ 100000
def S_are_weekdays : DSp := fun ds M Q R => ∃ x : D, x.fine ∧ ds = [x] ∧ Q (.bl x.wkB) M
def t_are_weekdays : DTS := dSeq (dIf (dOr (dNot (dTst (dIsi D.isStr (dVar 0)))) (dNot (dTst (dB bAll (dCons (dLc [1] (dStI (dVar 0)) (gN 1) (dYes) (dOp (qIn false) (dVar 1) (dC (.str ("0123456" : Str))))) (dNil)))))) (dRet (dC (.bl false))) (dNext)) (dRet (dB bAll (dCons (dLc [2, 3] (dZip (dVar 0) (dSl (dVar 0) (dPart (dC (.int 1))) (dNoP))) (gT [gN 2, gN 3]) (dYes) (dOp oLt (dVar 2) (dVar 3))) (dNil))))
theorem str_in (c : Nat) (z : Str) (M : Mem) (Q : DQ) (n : Bool) (q : Q (.bl (xor n (decide (c ∈ z.cps.toList)))) M) : qIn n (.str ⟨#[c]⟩) (.str z) M Q := ⟨c, rfl, q⟩
theorem xorf (b : Bool) : xor false b = b := by cases b <;> rfl
theorem xort (b : Bool) : xor true b = !b := by cases b <;> rfl
theorem lt_one (a b : Nat) : decide ((⟨#[a]⟩ : Str).cps.toList < (⟨#[b]⟩ : Str).cps.toList) = decide (a < b) := by
  apply decide_eq_decide.mpr
  simp [List.cons_lt_cons_iff]
/-- the only sign of a text, else 0 -/
def D.sg : D → Nat
  | .str z => z.cps.toList.headD 0
  | _ => 0
theorem sg_one (c : Nat) : (D.str ⟨#[c]⟩).sg = c := by simp [D.sg]
def D.pr : D → D × D
  | .tup [a, b] => (a, b)
  | _ => (.non, .non)
theorem zip_asc : ∀ l : List Nat, ((zipD (l.map fun c => D.str ⟨#[c]⟩) ((l.drop 1).map fun c => D.str ⟨#[c]⟩)).map fun x => decide (x.pr.1.sg < x.pr.2.sg)).all id = ascB l
  | [] => by simp [zipD, ascB]
  | [a] => by simp [zipD, ascB]
  | a :: b :: l => by
    have := zip_asc (b :: l)
    simp only [List.drop_succ_cons, List.drop_zero, List.map_cons, zipD, List.all_cons, ascB, id] at this ⊢
    rw [this]; simp only [D.pr, sg_one]
theorem mem_zip : ∀ {xs ys : List D} {d : D}, d ∈ zipD xs ys → ∃ x y, x ∈ xs ∧ y ∈ ys ∧ d = .tup [x, y]
  | [], _, _, h => by simp [zipD] at h
  | _ :: _, [], _, h => by simp [zipD] at h
  | x :: xs, y :: ys, d, h => by
    simp only [zipD, List.mem_cons] at h
    rcases h with rfl | h
    · exact ⟨x, y, List.mem_cons_self .., List.mem_cons_self .., rfl⟩
    · obtain ⟨a, b, h1, h2, h3⟩ := mem_zip h
      exact ⟨a, b, List.mem_cons_of_mem _ h1, List.mem_cons_of_mem _ h2, h3⟩
theorem cut1 (z : Str) : chD (L2.cutS z (some 1) none) = (z.cps.toList.drop 1).map fun c => D.str ⟨#[c]⟩ := by
  unfold L2.cutS chD
  by_cases h : z.length = 0
  · have e : z.cps.toList = [] := by
      have : z.cps.toList.length = 0 := by simpa [Str.length] using h
      exact List.eq_nil_of_length_eq_zero this
    rw [e]; simp
  · have e1 : HT.sIx z.length 0 (some 1) = 1 := by unfold HT.sIx; simp; omega
    have e2 : HT.sIx z.length z.length none = z.length := rfl
    rw [e1, e2]
    have : z.length = z.cps.toList.length := by simp [Str.length]
    rw [this, List.take_of_length_le (by rw [List.length_drop]; omega)]
theorem kp_are_weekdays : Keeps S_are_weekdays 4 t_are_weekdays := by
  rintro ds M Q R ⟨x, ⟨ht, hl⟩, rfl, q⟩
  cases x with
  | str z =>
    have hz := hl z rfl
    have hlen : (chD z).length ≤ 100000 := by simpa [chD, Str.length] using hz
    simp only [t_are_weekdays, dVar, dC, dOp, dUn, dTst, dAnd, dOr, dNot, dAndV, dOrV, dNotV, dIfE, dNil, dCons, dTup, dLst, dNew, dCall, dB, dChain, dNext, dSeq, dDrop, dRet, dRetN, dIf, dAsg, gN, gSeq, gT, dPar2, dPar3, dAug, dRaise, dFor, dYes, dLc, dels, del, put, nth, startN, dFrz, dIx, dPart, dNoP, dSl, dApp, dPut, dM1, dFmt, dJs, dJoined, dIsi, dRg1, dRg2, dLsI, dTpI, dStI, dZip, dEnL, dLsRg1, dLsRg2, dNewK, dNewT, dOneT, dSetSort, dLsZip, dNewCan, oAdd, oSub, oMul, oDiv, oMod, oPow, oLt, oLe, oGt, oGe, oIs, oIsNot, oNeg, oIAdd, D.isN, bLen, bInt, bStr, bAbs, bBool, bList, bTuple, D.ty, D.isInt, D.isBool, D.isStr, D.isTup, D.isLst, List.map_cons, List.map_nil, List.length_cons, List.length_nil, List.replicate_succ, List.replicate_zero, List.cons_append, List.nil_append, Option.isSome_some, if_true, if_false, Bool.false_eq_true, reduceIte, Nat.reduceAdd, Nat.reduceSub, Bool.not_true, Bool.not_false, true_and, and_true]
    refine ⟨z, rfl, hlen, lc_map (fun d => .bl (decide (d.sg ∈ figs))) _ (fun d hd k hk => ?_) ?_⟩
    · obtain ⟨c, hc, rfl⟩ := List.mem_map.mp hd
      simp only [dVar, dC, dOp, dUn, dTst, dAnd, dOr, dNot, dAndV, dOrV, dNotV, dIfE, dNil, dCons, dTup, dLst, dNew, dCall, dB, dChain, dNext, dSeq, dDrop, dRet, dRetN, dIf, dAsg, gN, gSeq, gT, dPar2, dPar3, dAug, dRaise, dFor, dYes, dLc, dels, del, put, nth, startN, dFrz, dIx, dPart, dNoP, dSl, dApp, dPut, dM1, dFmt, dJs, dJoined, dIsi, dRg1, dRg2, dLsI, dTpI, dStI, dZip, dEnL, dLsRg1, dLsRg2, dNewK, dNewT, dOneT, dSetSort, dLsZip, dNewCan, oAdd, oSub, oMul, oDiv, oMod, oPow, oLt, oLe, oGt, oGe, oIs, oIsNot, oNeg, oIAdd, D.isN, bLen, bInt, bStr, bAbs, bBool, bList, bTuple, D.ty, D.isInt, D.isBool, D.isStr, D.isTup, D.isLst, List.map_cons, List.map_nil, List.length_cons, List.length_nil, List.replicate_succ, List.replicate_zero, List.cons_append, List.nil_append, Option.isSome_some, if_true, if_false, Bool.false_eq_true, reduceIte, Nat.reduceAdd, Nat.reduceSub, Bool.not_true, Bool.not_false, true_and, and_true]
      refine str_in c _ _ _ _ ?_
      rw [xorf]; rw [sg_one] at hk; exact hk
    · simp only [bAll]
      refine ⟨(chD z).map fun d => decide (d.sg ∈ figs), by rw [List.map_map]; rfl, ?_⟩
      have e : ((chD z).map fun d => decide (d.sg ∈ figs)).all id = z.cps.toList.all (fun c => decide (c ∈ figs)) := by
        unfold chD; rw [List.map_map, List.all_map]; simp only [Function.comp_def, sg_one, id]
      rw [e]
      have q0 : Q (.bl ((z.cps.toList.all fun c => decide (c ∈ figs)) && ascB z.cps.toList)) M := q
      clear q; have q := q0; clear q0
      by_cases ha : z.cps.toList.all (fun c => decide (c ∈ figs)) = true
      · rw [ha] at q ⊢
        rw [Bool.true_and] at q
        simp only [dVar, dC, dOp, dUn, dTst, dAnd, dOr, dNot, dAndV, dOrV, dNotV, dIfE, dNil, dCons, dTup, dLst, dNew, dCall, dB, dChain, dNext, dSeq, dDrop, dRet, dRetN, dIf, dAsg, gN, gSeq, gT, dPar2, dPar3, dAug, dRaise, dFor, dYes, dLc, dels, del, put, nth, startN, dFrz, dIx, dPart, dNoP, dSl, dApp, dPut, dM1, dFmt, dJs, dJoined, dIsi, dRg1, dRg2, dLsI, dTpI, dStI, dZip, dEnL, dLsRg1, dLsRg2, dNewK, dNewT, dOneT, dSetSort, dLsZip, dNewCan, oAdd, oSub, oMul, oDiv, oMod, oPow, oLt, oLe, oGt, oGe, oIs, oIsNot, oNeg, oIAdd, D.isN, bLen, bInt, bStr, bAbs, bBool, bList, bTuple, D.ty, D.isInt, D.isBool, D.isStr, D.isTup, D.isLst, List.map_cons, List.map_nil, List.length_cons, List.length_nil, List.replicate_succ, List.replicate_zero, List.cons_append, List.nil_append, Option.isSome_some, if_true, if_false, Bool.false_eq_true, reduceIte, Nat.reduceAdd, Nat.reduceSub, Bool.not_true, Bool.not_false, true_and, and_true]
        refine ⟨hz, _, _, rfl, rfl, ?_⟩
        rw [cut1]
        have hlen2 : (zipD (chD z) ((z.cps.toList.drop 1).map fun c => D.str ⟨#[c]⟩)).length ≤ 100000 := by rw [zipD_length]; omega
        refine ⟨hlen2, lc_map (fun d => .bl (decide (d.pr.1.sg < d.pr.2.sg))) _ (fun d hd k hk => ?_) ?_⟩
        · obtain ⟨a, b, h1, h2, rfl⟩ := mem_zip hd
          obtain ⟨a, _, rfl⟩ := List.mem_map.mp h1
          obtain ⟨b, _, rfl⟩ := List.mem_map.mp h2
          simp only [dVar, dC, dOp, dUn, dTst, dAnd, dOr, dNot, dAndV, dOrV, dNotV, dIfE, dNil, dCons, dTup, dLst, dNew, dCall, dB, dChain, dNext, dSeq, dDrop, dRet, dRetN, dIf, dAsg, gN, gSeq, gT, dPar2, dPar3, dAug, dRaise, dFor, dYes, dLc, dels, del, put, nth, startN, dFrz, dIx, dPart, dNoP, dSl, dApp, dPut, dM1, dFmt, dJs, dJoined, dIsi, dRg1, dRg2, dLsI, dTpI, dStI, dZip, dEnL, dLsRg1, dLsRg2, dNewK, dNewT, dOneT, dSetSort, dLsZip, dNewCan, oAdd, oSub, oMul, oDiv, oMod, oPow, oLt, oLe, oGt, oGe, oIs, oIsNot, oNeg, oIAdd, D.isN, bLen, bInt, bStr, bAbs, bBool, bList, bTuple, D.ty, D.isInt, D.isBool, D.isStr, D.isTup, D.isLst, List.map_cons, List.map_nil, List.length_cons, List.length_nil, List.replicate_succ, List.replicate_zero, List.cons_append, List.nil_append, Option.isSome_some, if_true, if_false, Bool.false_eq_true, reduceIte, Nat.reduceAdd, Nat.reduceSub, Bool.not_true, Bool.not_false, true_and, and_true]
          rw [lt_one]
          simp only [D.pr, sg_one] at hk
          exact hk
        · simp only [bAll]
          refine ⟨(zipD (chD z) ((z.cps.toList.drop 1).map fun c => D.str ⟨#[c]⟩)).map fun d => decide (d.pr.1.sg < d.pr.2.sg), by rw [List.map_map]; rfl, ?_⟩
          rw [show chD z = z.cps.toList.map fun c => D.str ⟨#[c]⟩ from rfl, zip_asc]
          exact fg_self q
      · have ha' : z.cps.toList.all (fun c => decide (c ∈ figs)) = false := Bool.eq_false_iff.mpr ha
        rw [ha'] at q ⊢
        simp only [dVar, dC, dOp, dUn, dTst, dAnd, dOr, dNot, dAndV, dOrV, dNotV, dIfE, dNil, dCons, dTup, dLst, dNew, dCall, dB, dChain, dNext, dSeq, dDrop, dRet, dRetN, dIf, dAsg, gN, gSeq, gT, dPar2, dPar3, dAug, dRaise, dFor, dYes, dLc, dels, del, put, nth, startN, dFrz, dIx, dPart, dNoP, dSl, dApp, dPut, dM1, dFmt, dJs, dJoined, dIsi, dRg1, dRg2, dLsI, dTpI, dStI, dZip, dEnL, dLsRg1, dLsRg2, dNewK, dNewT, dOneT, dSetSort, dLsZip, dNewCan, oAdd, oSub, oMul, oDiv, oMod, oPow, oLt, oLe, oGt, oGe, oIs, oIsNot, oNeg, oIAdd, D.isN, bLen, bInt, bStr, bAbs, bBool, bList, bTuple, D.ty, D.isInt, D.isBool, D.isStr, D.isTup, D.isLst, List.map_cons, List.map_nil, List.length_cons, List.length_nil, List.replicate_succ, List.replicate_zero, List.cons_append, List.nil_append, Option.isSome_some, if_true, if_false, Bool.false_eq_true, reduceIte, Nat.reduceAdd, Nat.reduceSub, Bool.not_true, Bool.not_false, true_and, and_true]
        exact fg_self q
  | scr _ => cases ht
  | fn _ => cases ht
  | obj _ => cases ht
  | _ => simp only [t_are_weekdays, dVar, dC, dOp, dUn, dTst, dAnd, dOr, dNot, dAndV, dOrV, dNotV, dIfE, dNil, dCons, dTup, dLst, dNew, dCall, dB, dChain, dNext, dSeq, dDrop, dRet, dRetN, dIf, dAsg, gN, gSeq, gT, dPar2, dPar3, dAug, dRaise, dFor, dYes, dLc, dels, del, put, nth, startN, dFrz, dIx, dPart, dNoP, dSl, dApp, dPut, dM1, dFmt, dJs, dJoined, dIsi, dRg1, dRg2, dLsI, dTpI, dStI, dZip, dEnL, dLsRg1, dLsRg2, dNewK, dNewT, dOneT, dSetSort, dLsZip, dNewCan, oAdd, oSub, oMul, oDiv, oMod, oPow, oLt, oLe, oGt, oGe, oIs, oIsNot, oNeg, oIAdd, D.isN, bLen, bInt, bStr, bAbs, bBool, bList, bTuple, D.ty, D.isInt, D.isBool, D.isStr, D.isTup, D.isLst, List.map_cons, List.map_nil, List.length_cons, List.length_nil, List.replicate_succ, List.replicate_zero, List.cons_append, List.nil_append, Option.isSome_some, if_true, if_false, Bool.false_eq_true, reduceIte, Nat.reduceAdd, Nat.reduceSub, Bool.not_true, Bool.not_false, true_and, and_true]; exact fg_self q
/-! ### houses, calendars -/
def D.houseB : D → Bool
  | .tup [.str a, .str b, .int q] => decide (1 ≤ q) && decide (q ≤ 3) && (wkZ a && (wkZ b && (!decide (a.length = 0) && (!decide (b.length = 0) && decide ((a.length : Int) ≤ q * b.length)))))
  | _ => false
def D.fine2 (x : D) : Prop := x.fine ∧ ∀ ds, x = .tup ds → ds.length ≤ 100000 ∧ ∀ d ∈ ds, d.fine
def S_is_house : DSp := fun ds M Q R => ∃ x : D, x.fine2 ∧ ds = [x] ∧ Q (.bl x.houseB) M
def t_is_house : DTS := dSeq (dIf (dOr (dNot (dTst (dIsi D.isTup (dVar 0)))) (dOr (dTst (dOp oNe (dB bLen (dCons (dVar 0) (dNil))) (dC (.int 3)))) (dNot (dTst (dCall S_is_integer (dCons (dOp dIx (dVar 0) (dC (.int 2))) (dCons (dC (.int 1)) (dCons (dC (.int 3)) (dNil))))))))) (dRet (dC (.bl false))) (dNext)) (dSeq (dIf (dOr (dNot (dTst (dCall S_are_weekdays (dCons (dOp dIx (dVar 0) (dC (.int 0))) (dNil))))) (dOr (dNot (dTst (dCall S_are_weekdays (dCons (dOp dIx (dVar 0) (dC (.int 1))) (dNil))))) (dOr (dTst (dOp oEq (dOp dIx (dVar 0) (dC (.int 0))) (dC (.str ("" : Str))))) (dTst (dOp oEq (dOp dIx (dVar 0) (dC (.int 1))) (dC (.str ("" : Str)))))))) (dRet (dC (.bl false))) (dNext)) (dRet (dOp oLe (dB bLen (dCons (dOp dIx (dVar 0) (dC (.int 0))) (dNil))) (dOp oMul (dOp dIx (dVar 0) (dC (.int 2))) (dB bLen (dCons (dOp dIx (dVar 0) (dC (.int 1))) (dNil)))))))
theorem ok_int (i : Int) : (D.int i).ok := rfl
theorem eqv_int (i j : Int) : (D.int i).eqv (.int j) = decide (i = j) := by
  simp only [D.eqv, D.py, PyData.eqv]; rfl
theorem wkZ_ok {z : Str} (h : wkZ z = true) : (D.str z).ok := by
  unfold D.ok SeqAt.shaped
  simp only [D.py, PyData.canLay0, PyData.depth, PyData.strOk]
  unfold wkZ at h
  rw [Bool.and_eq_true] at h
  have h1 := h.1
  rw [List.all_eq_true] at h1
  simp only [Nat.zero_le, decide_true, Bool.and_true, Array.all_eq_true_iff_forall_mem]
  intro c hc
  have hm := h1 c (by simpa using hc)
  have := of_decide_eq_true hm
  have e : figs = [48, 49, 50, 51, 52, 53, 54] := by decide
  rw [e] at this
  simp only [List.mem_cons, List.not_mem_nil, or_false] at this
  exact decide_eq_true (by omega)
theorem eqv_empty (z : Str) : (D.str z).eqv (.str ("" : Str)) = decide (z.length = 0) := by
  simp only [D.eqv, D.py, PyData.eqv]
  by_cases h : z.length = 0
  · rw [decide_eq_true h]
    have e : z = ("" : Str) := by
      cases z with
      | mk c =>
        have : c.size = 0 := h
        have : c = #[] := Array.eq_empty_of_size_eq_zero this
        rw [this]; rfl
    rw [e]; rfl
  · rw [decide_eq_false h]
    apply beq_eq_false_iff_ne.mpr
    intro e
    rw [e] at h
    exact h rfl
theorem ok_empty : (D.str ("" : Str)).ok := by unfold D.ok; simp only [D.py]; decide +kernel
theorem wkB_str {x : D} (h : x.wkB = true) : ∃ z, x = .str z ∧ wkZ z = true := by
  cases x <;> first | exact ⟨_, rfl, h⟩ | cases h
theorem inB_int {x : D} {lo hi : Int} (h : x.inB lo hi = true) : ∃ i, x = .int i ∧ lo ≤ i ∧ i ≤ hi := by
  cases x <;> first | cases h | skip
  simp only [D.inB, Bool.and_eq_true, decide_eq_true_eq] at h
  exact ⟨_, rfl, h.1, h.2⟩
theorem houseB_no1 {ds : List D} (h : ∀ a b c, ds ≠ [a, b, c]) : (D.tup ds).houseB = false := by
  unfold D.houseB
  split
  · rename_i a b q e; exact absurd (D.tup.inj e) (h _ _ _)
  · rfl
theorem houseB_3 (a b c : D) : (D.tup [a, b, c]).houseB = true → c.inB 1 3 = true ∧ a.wkB = true ∧ b.wkB = true := by
  intro h
  unfold D.houseB at h
  split at h
  · rename_i x y q e
    cases D.tup.inj e
    simp only [Bool.and_eq_true, decide_eq_true_eq] at h
    exact ⟨by simp only [D.inB, Bool.and_eq_true, decide_eq_true_eq]; exact ⟨h.1.1, h.1.2⟩, h.2.1, h.2.2.1⟩
  · cases h
theorem kp_is_house : Keeps S_is_house 1 t_is_house := by
  rintro ds M Q R ⟨x, ⟨⟨ht, hl⟩, hf⟩, rfl, q⟩
  cases x with
  | tup ds =>
    obtain ⟨hlen, hf⟩ := hf ds rfl
    simp only [t_is_house, dVar, dC, dOp, dUn, dTst, dAnd, dOr, dNot, dAndV, dOrV, dNotV, dIfE, dNil, dCons, dTup, dLst, dNew, dCall, dB, dChain, dNext, dSeq, dDrop, dRet, dRetN, dIf, dAsg, gN, gSeq, gT, dPar2, dPar3, dAug, dRaise, dFor, dYes, dLc, dels, del, put, nth, startN, dFrz, dIx, dPart, dNoP, dSl, dApp, dPut, dM1, dFmt, dJs, dJoined, dIsi, dRg1, dRg2, dLsI, dTpI, dStI, dZip, dEnL, dLsRg1, dLsRg2, dNewK, dNewT, dOneT, dSetSort, dLsZip, dNewCan, oAdd, oSub, oMul, oDiv, oMod, oPow, oLt, oLe, oGt, oGe, oIs, oIsNot, oNeg, oIAdd, D.isN, bLen, bInt, bStr, bAbs, bBool, bList, bTuple, D.ty, D.isInt, D.isBool, D.isStr, D.isTup, D.isLst, List.map_cons, List.map_nil, List.length_cons, List.length_nil, List.replicate_succ, List.replicate_zero, List.cons_append, List.nil_append, Option.isSome_some, if_true, if_false, Bool.false_eq_true, reduceIte, Nat.reduceAdd, Nat.reduceSub, Bool.not_true, Bool.not_false, true_and, and_true]
    refine ⟨ok_int _, ok_int _, ?_⟩
    rw [eqv_int]
    by_cases h3 : ds.length = 3
    · match ds, h3 with
      | [a, b, c], _ =>
      have fa := hf a (by simp)
      have fb := hf b (by simp)
      have fc := hf c (by simp)
      simp only [List.length_cons, List.length_nil, Nat.reduceAdd, Int.cast_ofNat_Int, decide_true, Bool.not_true, dVar, dC, dOp, dUn, dTst, dAnd, dOr, dNot, dAndV, dOrV, dNotV, dIfE, dNil, dCons, dTup, dLst, dNew, dCall, dB, dChain, dNext, dSeq, dDrop, dRet, dRetN, dIf, dAsg, gN, gSeq, gT, dPar2, dPar3, dAug, dRaise, dFor, dYes, dLc, dels, del, put, nth, startN, dFrz, dIx, dPart, dNoP, dSl, dApp, dPut, dM1, dFmt, dJs, dJoined, dIsi, dRg1, dRg2, dLsI, dTpI, dStI, dZip, dEnL, dLsRg1, dLsRg2, dNewK, dNewT, dOneT, dSetSort, dLsZip, dNewCan, oAdd, oSub, oMul, oDiv, oMod, oPow, oLt, oLe, oGt, oGe, oIs, oIsNot, oNeg, oIAdd, D.isN, bLen, bInt, bStr, bAbs, bBool, bList, bTuple, D.ty, D.isInt, D.isBool, D.isStr, D.isTup, D.isLst, List.map_cons, List.map_nil, List.length_cons, List.length_nil, List.replicate_succ, List.replicate_zero, List.cons_append, List.nil_append, Option.isSome_some, if_true, if_false, Bool.false_eq_true, reduceIte, Nat.reduceAdd, Nat.reduceSub, Bool.not_true, Bool.not_false, true_and, and_true]
      refine ⟨_, _, rfl, ix2 .., c, 1, 3, fc.1, rfl, ?_⟩
      dsimp only
      cases hc : c.inB 1 3 with
      | false =>
        simp only [dVar, dC, dOp, dUn, dTst, dAnd, dOr, dNot, dAndV, dOrV, dNotV, dIfE, dNil, dCons, dTup, dLst, dNew, dCall, dB, dChain, dNext, dSeq, dDrop, dRet, dRetN, dIf, dAsg, gN, gSeq, gT, dPar2, dPar3, dAug, dRaise, dFor, dYes, dLc, dels, del, put, nth, startN, dFrz, dIx, dPart, dNoP, dSl, dApp, dPut, dM1, dFmt, dJs, dJoined, dIsi, dRg1, dRg2, dLsI, dTpI, dStI, dZip, dEnL, dLsRg1, dLsRg2, dNewK, dNewT, dOneT, dSetSort, dLsZip, dNewCan, oAdd, oSub, oMul, oDiv, oMod, oPow, oLt, oLe, oGt, oGe, oIs, oIsNot, oNeg, oIAdd, D.isN, bLen, bInt, bStr, bAbs, bBool, bList, bTuple, D.ty, D.isInt, D.isBool, D.isStr, D.isTup, D.isLst, List.map_cons, List.map_nil, List.length_cons, List.length_nil, List.replicate_succ, List.replicate_zero, List.cons_append, List.nil_append, Option.isSome_some, if_true, if_false, Bool.false_eq_true, reduceIte, Nat.reduceAdd, Nat.reduceSub, Bool.not_true, Bool.not_false, true_and, and_true]
        have e : (D.tup [a, b, c]).houseB = false := Bool.eq_false_iff.mpr fun z => by rw [(houseB_3 a b c z).1] at hc; cases hc
        rw [e] at q; exact fg_self q
      | true =>
        obtain ⟨i, rfl, i1, i2⟩ := inB_int hc
        simp only [dVar, dC, dOp, dUn, dTst, dAnd, dOr, dNot, dAndV, dOrV, dNotV, dIfE, dNil, dCons, dTup, dLst, dNew, dCall, dB, dChain, dNext, dSeq, dDrop, dRet, dRetN, dIf, dAsg, gN, gSeq, gT, dPar2, dPar3, dAug, dRaise, dFor, dYes, dLc, dels, del, put, nth, startN, dFrz, dIx, dPart, dNoP, dSl, dApp, dPut, dM1, dFmt, dJs, dJoined, dIsi, dRg1, dRg2, dLsI, dTpI, dStI, dZip, dEnL, dLsRg1, dLsRg2, dNewK, dNewT, dOneT, dSetSort, dLsZip, dNewCan, oAdd, oSub, oMul, oDiv, oMod, oPow, oLt, oLe, oGt, oGe, oIs, oIsNot, oNeg, oIAdd, D.isN, bLen, bInt, bStr, bAbs, bBool, bList, bTuple, D.ty, D.isInt, D.isBool, D.isStr, D.isTup, D.isLst, List.map_cons, List.map_nil, List.length_cons, List.length_nil, List.replicate_succ, List.replicate_zero, List.cons_append, List.nil_append, Option.isSome_some, if_true, if_false, Bool.false_eq_true, reduceIte, Nat.reduceAdd, Nat.reduceSub, Bool.not_true, Bool.not_false, true_and, and_true]
        refine ⟨_, _, rfl, ix0 .., a, fa, rfl, ?_⟩
        dsimp only
        cases ha : a.wkB with
        | false =>
          simp only [dVar, dC, dOp, dUn, dTst, dAnd, dOr, dNot, dAndV, dOrV, dNotV, dIfE, dNil, dCons, dTup, dLst, dNew, dCall, dB, dChain, dNext, dSeq, dDrop, dRet, dRetN, dIf, dAsg, gN, gSeq, gT, dPar2, dPar3, dAug, dRaise, dFor, dYes, dLc, dels, del, put, nth, startN, dFrz, dIx, dPart, dNoP, dSl, dApp, dPut, dM1, dFmt, dJs, dJoined, dIsi, dRg1, dRg2, dLsI, dTpI, dStI, dZip, dEnL, dLsRg1, dLsRg2, dNewK, dNewT, dOneT, dSetSort, dLsZip, dNewCan, oAdd, oSub, oMul, oDiv, oMod, oPow, oLt, oLe, oGt, oGe, oIs, oIsNot, oNeg, oIAdd, D.isN, bLen, bInt, bStr, bAbs, bBool, bList, bTuple, D.ty, D.isInt, D.isBool, D.isStr, D.isTup, D.isLst, List.map_cons, List.map_nil, List.length_cons, List.length_nil, List.replicate_succ, List.replicate_zero, List.cons_append, List.nil_append, Option.isSome_some, if_true, if_false, Bool.false_eq_true, reduceIte, Nat.reduceAdd, Nat.reduceSub, Bool.not_true, Bool.not_false, true_and, and_true]
          have e : (D.tup [a, b, .int i]).houseB = false := Bool.eq_false_iff.mpr fun z => by rw [(houseB_3 a b _ z).2.1] at ha; cases ha
          rw [e] at q; exact fg_self q
        | true =>
          obtain ⟨za, rfl, wa⟩ := wkB_str ha
          simp only [dVar, dC, dOp, dUn, dTst, dAnd, dOr, dNot, dAndV, dOrV, dNotV, dIfE, dNil, dCons, dTup, dLst, dNew, dCall, dB, dChain, dNext, dSeq, dDrop, dRet, dRetN, dIf, dAsg, gN, gSeq, gT, dPar2, dPar3, dAug, dRaise, dFor, dYes, dLc, dels, del, put, nth, startN, dFrz, dIx, dPart, dNoP, dSl, dApp, dPut, dM1, dFmt, dJs, dJoined, dIsi, dRg1, dRg2, dLsI, dTpI, dStI, dZip, dEnL, dLsRg1, dLsRg2, dNewK, dNewT, dOneT, dSetSort, dLsZip, dNewCan, oAdd, oSub, oMul, oDiv, oMod, oPow, oLt, oLe, oGt, oGe, oIs, oIsNot, oNeg, oIAdd, D.isN, bLen, bInt, bStr, bAbs, bBool, bList, bTuple, D.ty, D.isInt, D.isBool, D.isStr, D.isTup, D.isLst, List.map_cons, List.map_nil, List.length_cons, List.length_nil, List.replicate_succ, List.replicate_zero, List.cons_append, List.nil_append, Option.isSome_some, if_true, if_false, Bool.false_eq_true, reduceIte, Nat.reduceAdd, Nat.reduceSub, Bool.not_true, Bool.not_false, true_and, and_true]
          refine ⟨_, _, rfl, ix1 .., b, fb, rfl, ?_⟩
          dsimp only
          cases hb : b.wkB with
          | false =>
            simp only [dVar, dC, dOp, dUn, dTst, dAnd, dOr, dNot, dAndV, dOrV, dNotV, dIfE, dNil, dCons, dTup, dLst, dNew, dCall, dB, dChain, dNext, dSeq, dDrop, dRet, dRetN, dIf, dAsg, gN, gSeq, gT, dPar2, dPar3, dAug, dRaise, dFor, dYes, dLc, dels, del, put, nth, startN, dFrz, dIx, dPart, dNoP, dSl, dApp, dPut, dM1, dFmt, dJs, dJoined, dIsi, dRg1, dRg2, dLsI, dTpI, dStI, dZip, dEnL, dLsRg1, dLsRg2, dNewK, dNewT, dOneT, dSetSort, dLsZip, dNewCan, oAdd, oSub, oMul, oDiv, oMod, oPow, oLt, oLe, oGt, oGe, oIs, oIsNot, oNeg, oIAdd, D.isN, bLen, bInt, bStr, bAbs, bBool, bList, bTuple, D.ty, D.isInt, D.isBool, D.isStr, D.isTup, D.isLst, List.map_cons, List.map_nil, List.length_cons, List.length_nil, List.replicate_succ, List.replicate_zero, List.cons_append, List.nil_append, Option.isSome_some, if_true, if_false, Bool.false_eq_true, reduceIte, Nat.reduceAdd, Nat.reduceSub, Bool.not_true, Bool.not_false, true_and, and_true]
            have e : (D.tup [.str za, b, .int i]).houseB = false := Bool.eq_false_iff.mpr fun z => by rw [(houseB_3 _ b _ z).2.2] at hb; cases hb
            rw [e] at q; exact fg_self q
          | true =>
            obtain ⟨zb, rfl, wb⟩ := wkB_str hb
            have q' : Q (.bl (!decide (za.length = 0) && (!decide (zb.length = 0) && decide ((za.length : Int) ≤ i * zb.length)))) M := by
              simp only [D.houseB, decide_eq_true i1, decide_eq_true i2, wa, wb, Bool.true_and] at q; exact q
            simp only [dVar, dC, dOp, dUn, dTst, dAnd, dOr, dNot, dAndV, dOrV, dNotV, dIfE, dNil, dCons, dTup, dLst, dNew, dCall, dB, dChain, dNext, dSeq, dDrop, dRet, dRetN, dIf, dAsg, gN, gSeq, gT, dPar2, dPar3, dAug, dRaise, dFor, dYes, dLc, dels, del, put, nth, startN, dFrz, dIx, dPart, dNoP, dSl, dApp, dPut, dM1, dFmt, dJs, dJoined, dIsi, dRg1, dRg2, dLsI, dTpI, dStI, dZip, dEnL, dLsRg1, dLsRg2, dNewK, dNewT, dOneT, dSetSort, dLsZip, dNewCan, oAdd, oSub, oMul, oDiv, oMod, oPow, oLt, oLe, oGt, oGe, oIs, oIsNot, oNeg, oIAdd, D.isN, bLen, bInt, bStr, bAbs, bBool, bList, bTuple, D.ty, D.isInt, D.isBool, D.isStr, D.isTup, D.isLst, List.map_cons, List.map_nil, List.length_cons, List.length_nil, List.replicate_succ, List.replicate_zero, List.cons_append, List.nil_append, Option.isSome_some, if_true, if_false, Bool.false_eq_true, reduceIte, Nat.reduceAdd, Nat.reduceSub, Bool.not_true, Bool.not_false, true_and, and_true]
            refine ⟨_, _, rfl, ix0 .., wkZ_ok wa, ok_empty, ?_⟩
            rw [eqv_empty]
            dsimp only
            by_cases l1 : za.length = 0
            · rw [decide_eq_true l1] at q' ⊢; simp only [dVar, dC, dOp, dUn, dTst, dAnd, dOr, dNot, dAndV, dOrV, dNotV, dIfE, dNil, dCons, dTup, dLst, dNew, dCall, dB, dChain, dNext, dSeq, dDrop, dRet, dRetN, dIf, dAsg, gN, gSeq, gT, dPar2, dPar3, dAug, dRaise, dFor, dYes, dLc, dels, del, put, nth, startN, dFrz, dIx, dPart, dNoP, dSl, dApp, dPut, dM1, dFmt, dJs, dJoined, dIsi, dRg1, dRg2, dLsI, dTpI, dStI, dZip, dEnL, dLsRg1, dLsRg2, dNewK, dNewT, dOneT, dSetSort, dLsZip, dNewCan, oAdd, oSub, oMul, oDiv, oMod, oPow, oLt, oLe, oGt, oGe, oIs, oIsNot, oNeg, oIAdd, D.isN, bLen, bInt, bStr, bAbs, bBool, bList, bTuple, D.ty, D.isInt, D.isBool, D.isStr, D.isTup, D.isLst, List.map_cons, List.map_nil, List.length_cons, List.length_nil, List.replicate_succ, List.replicate_zero, List.cons_append, List.nil_append, Option.isSome_some, if_true, if_false, Bool.false_eq_true, reduceIte, Nat.reduceAdd, Nat.reduceSub, Bool.not_true, Bool.not_false, true_and, and_true]; exact fg_self q'
            · rw [decide_eq_false l1] at q' ⊢
              simp only [dVar, dC, dOp, dUn, dTst, dAnd, dOr, dNot, dAndV, dOrV, dNotV, dIfE, dNil, dCons, dTup, dLst, dNew, dCall, dB, dChain, dNext, dSeq, dDrop, dRet, dRetN, dIf, dAsg, gN, gSeq, gT, dPar2, dPar3, dAug, dRaise, dFor, dYes, dLc, dels, del, put, nth, startN, dFrz, dIx, dPart, dNoP, dSl, dApp, dPut, dM1, dFmt, dJs, dJoined, dIsi, dRg1, dRg2, dLsI, dTpI, dStI, dZip, dEnL, dLsRg1, dLsRg2, dNewK, dNewT, dOneT, dSetSort, dLsZip, dNewCan, oAdd, oSub, oMul, oDiv, oMod, oPow, oLt, oLe, oGt, oGe, oIs, oIsNot, oNeg, oIAdd, D.isN, bLen, bInt, bStr, bAbs, bBool, bList, bTuple, D.ty, D.isInt, D.isBool, D.isStr, D.isTup, D.isLst, List.map_cons, List.map_nil, List.length_cons, List.length_nil, List.replicate_succ, List.replicate_zero, List.cons_append, List.nil_append, Option.isSome_some, if_true, if_false, Bool.false_eq_true, reduceIte, Nat.reduceAdd, Nat.reduceSub, Bool.not_true, Bool.not_false, true_and, and_true]
              refine ⟨_, _, rfl, ix1 .., wkZ_ok wb, ok_empty, ?_⟩
              rw [eqv_empty]
              dsimp only
              by_cases l2 : zb.length = 0
              · rw [decide_eq_true l2] at q' ⊢; simp only [dVar, dC, dOp, dUn, dTst, dAnd, dOr, dNot, dAndV, dOrV, dNotV, dIfE, dNil, dCons, dTup, dLst, dNew, dCall, dB, dChain, dNext, dSeq, dDrop, dRet, dRetN, dIf, dAsg, gN, gSeq, gT, dPar2, dPar3, dAug, dRaise, dFor, dYes, dLc, dels, del, put, nth, startN, dFrz, dIx, dPart, dNoP, dSl, dApp, dPut, dM1, dFmt, dJs, dJoined, dIsi, dRg1, dRg2, dLsI, dTpI, dStI, dZip, dEnL, dLsRg1, dLsRg2, dNewK, dNewT, dOneT, dSetSort, dLsZip, dNewCan, oAdd, oSub, oMul, oDiv, oMod, oPow, oLt, oLe, oGt, oGe, oIs, oIsNot, oNeg, oIAdd, D.isN, bLen, bInt, bStr, bAbs, bBool, bList, bTuple, D.ty, D.isInt, D.isBool, D.isStr, D.isTup, D.isLst, List.map_cons, List.map_nil, List.length_cons, List.length_nil, List.replicate_succ, List.replicate_zero, List.cons_append, List.nil_append, Option.isSome_some, if_true, if_false, Bool.false_eq_true, reduceIte, Nat.reduceAdd, Nat.reduceSub, Bool.not_true, Bool.not_false, true_and, and_true]; exact fg_self q'
              · rw [decide_eq_false l2] at q' ⊢
                simp only [dVar, dC, dOp, dUn, dTst, dAnd, dOr, dNot, dAndV, dOrV, dNotV, dIfE, dNil, dCons, dTup, dLst, dNew, dCall, dB, dChain, dNext, dSeq, dDrop, dRet, dRetN, dIf, dAsg, gN, gSeq, gT, dPar2, dPar3, dAug, dRaise, dFor, dYes, dLc, dels, del, put, nth, startN, dFrz, dIx, dPart, dNoP, dSl, dApp, dPut, dM1, dFmt, dJs, dJoined, dIsi, dRg1, dRg2, dLsI, dTpI, dStI, dZip, dEnL, dLsRg1, dLsRg2, dNewK, dNewT, dOneT, dSetSort, dLsZip, dNewCan, oAdd, oSub, oMul, oDiv, oMod, oPow, oLt, oLe, oGt, oGe, oIs, oIsNot, oNeg, oIAdd, D.isN, bLen, bInt, bStr, bAbs, bBool, bList, bTuple, D.ty, D.isInt, D.isBool, D.isStr, D.isTup, D.isLst, List.map_cons, List.map_nil, List.length_cons, List.length_nil, List.replicate_succ, List.replicate_zero, List.cons_append, List.nil_append, Option.isSome_some, if_true, if_false, Bool.false_eq_true, reduceIte, Nat.reduceAdd, Nat.reduceSub, Bool.not_true, Bool.not_false, true_and, and_true]
                have la := fa.2 _ rfl
                have lb := fb.2 _ rfl
                refine ⟨_, _, rfl, ix0 .., la, _, _, rfl, ix2 .., _, _, rfl, ix1 .., lb, .inl (small_of (by omega) (by omega)), ?_⟩
                simp only [oLe]
                exact fg_self (by simpa using q')
    · have e : (D.tup ds).houseB = false := houseB_no1 fun a b c z => h3 (by rw [z]; rfl)
      rw [e] at q
      rw [decide_eq_false (by omega)]
      simp only [dVar, dC, dOp, dUn, dTst, dAnd, dOr, dNot, dAndV, dOrV, dNotV, dIfE, dNil, dCons, dTup, dLst, dNew, dCall, dB, dChain, dNext, dSeq, dDrop, dRet, dRetN, dIf, dAsg, gN, gSeq, gT, dPar2, dPar3, dAug, dRaise, dFor, dYes, dLc, dels, del, put, nth, startN, dFrz, dIx, dPart, dNoP, dSl, dApp, dPut, dM1, dFmt, dJs, dJoined, dIsi, dRg1, dRg2, dLsI, dTpI, dStI, dZip, dEnL, dLsRg1, dLsRg2, dNewK, dNewT, dOneT, dSetSort, dLsZip, dNewCan, oAdd, oSub, oMul, oDiv, oMod, oPow, oLt, oLe, oGt, oGe, oIs, oIsNot, oNeg, oIAdd, D.isN, bLen, bInt, bStr, bAbs, bBool, bList, bTuple, D.ty, D.isInt, D.isBool, D.isStr, D.isTup, D.isLst, List.map_cons, List.map_nil, List.length_cons, List.length_nil, List.replicate_succ, List.replicate_zero, List.cons_append, List.nil_append, Option.isSome_some, if_true, if_false, Bool.false_eq_true, reduceIte, Nat.reduceAdd, Nat.reduceSub, Bool.not_true, Bool.not_false, true_and, and_true]
      exact fg_self q
  | scr _ => cases ht
  | fn _ => cases ht
  | obj _ => cases ht
  | _ => simp only [t_is_house, dVar, dC, dOp, dUn, dTst, dAnd, dOr, dNot, dAndV, dOrV, dNotV, dIfE, dNil, dCons, dTup, dLst, dNew, dCall, dB, dChain, dNext, dSeq, dDrop, dRet, dRetN, dIf, dAsg, gN, gSeq, gT, dPar2, dPar3, dAug, dRaise, dFor, dYes, dLc, dels, del, put, nth, startN, dFrz, dIx, dPart, dNoP, dSl, dApp, dPut, dM1, dFmt, dJs, dJoined, dIsi, dRg1, dRg2, dLsI, dTpI, dStI, dZip, dEnL, dLsRg1, dLsRg2, dNewK, dNewT, dOneT, dSetSort, dLsZip, dNewCan, oAdd, oSub, oMul, oDiv, oMod, oPow, oLt, oLe, oGt, oGe, oIs, oIsNot, oNeg, oIAdd, D.isN, bLen, bInt, bStr, bAbs, bBool, bList, bTuple, D.ty, D.isInt, D.isBool, D.isStr, D.isTup, D.isLst, List.map_cons, List.map_nil, List.length_cons, List.length_nil, List.replicate_succ, List.replicate_zero, List.cons_append, List.nil_append, Option.isSome_some, if_true, if_false, Bool.false_eq_true, reduceIte, Nat.reduceAdd, Nat.reduceSub, Bool.not_true, Bool.not_false, true_and, and_true]; exact fg_self q
/-- each one below the next -/
def ascI : List Int → Bool
  | a :: b :: l => decide (a < b) && ascI (b :: l)
  | _ => true
def D.ints : List D → Option (List Int)
  | [] => some []
  | .int i :: l => (D.ints l).map (i :: ·)
  | _ => none
abbrev great : Int := 1000000000000000000000000000000
def D.calB : D → Bool
  | .tup ds => decide (ds.length ≤ 20) && match D.ints ds with
    | some ns => ns.all (fun i => decide (0 ≤ i) && decide (i ≤ great)) && ascI ns
    | none => false
  | _ => false
def S_is_calendar : DSp := fun ds M Q R => ∃ x : D, x.fine2 ∧ ds = [x] ∧ Q (.bl x.calB) M
def t_is_calendar : DTS := dSeq (dIf (dOr (dNot (dTst (dIsi D.isTup (dVar 0)))) (dTst (dOp oGt (dB bLen (dCons (dVar 0) (dNil))) (dC (.int 20))))) (dRet (dC (.bl false))) (dNext)) (dSeq (dIf (dNot (dTst (dB bAll (dCons (dLc [1] (dTpI (dVar 0)) (gN 1) (dYes) (dCall S_is_integer (dCons (dVar 1) (dCons (dC (.int 0)) (dCons (dC (.int 1000000000000000000000000000000)) (dNil)))))) (dNil))))) (dRet (dC (.bl false))) (dNext)) (dRet (dB bAll (dCons (dLc [2, 3] (dZip (dVar 0) (dSl (dVar 0) (dPart (dC (.int 1))) (dNoP))) (gT [gN 2, gN 3]) (dYes) (dOp oLt (dVar 2) (dVar 3))) (dNil)))))
theorem ints_map (ns : List Int) : D.ints (ns.map D.int) = some ns := by
  induction ns with
  | nil => rfl
  | cons a l ih => simp [D.ints, ih]
theorem all_inB : ∀ {ds : List D} {lo hi : Int}, (ds.map fun d => d.inB lo hi).all id = true → ∃ ns : List Int, ds = ns.map D.int ∧ ns.all (fun i => decide (lo ≤ i) && decide (i ≤ hi)) = true
  | [], _, _, _ => ⟨[], rfl, rfl⟩
  | d :: ds, lo, hi, h => by
    rw [List.map_cons, List.all_cons, Bool.and_eq_true] at h
    obtain ⟨i, rfl, h1, h2⟩ := inB_int (show d.inB lo hi = true from h.1)
    obtain ⟨ns, rfl, h3⟩ := all_inB h.2
    exact ⟨i :: ns, rfl, by rw [List.all_cons, h3, decide_eq_true h1, decide_eq_true h2]; rfl⟩
theorem ints_all {ns : List Int} {lo hi : Int} : ((ns.map D.int).map fun d => d.inB lo hi).all id = ns.all fun i => decide (lo ≤ i) && decide (i ≤ hi) := by
  rw [List.map_map, List.all_map]; rfl
def D.iv : D → Int
  | .int i => i
  | _ => 0
theorem zip_ascI : ∀ l : List Int, ((zipD (l.map D.int) ((l.map D.int).drop 1)).map fun x => decide (x.pr.1.iv < x.pr.2.iv)).all id = ascI l
  | [] => by simp [zipD, ascI]
  | [a] => by simp [zipD, ascI]
  | a :: b :: l => by
    have := zip_ascI (b :: l)
    simp only [List.drop_succ_cons, List.drop_zero, List.map_cons, zipD, List.all_cons, ascI, id] at this ⊢
    rw [this]; rfl
theorem cutD1 (ds : List D) : cutD ds (some 1) none = ds.drop 1 := by
  unfold cutD
  cases ds with
  | nil => rfl
  | cons a l =>
    have e1 : HT.sIx (a :: l).length 0 (some 1) = 1 := by unfold HT.sIx; simp
    have e2 : HT.sIx (a :: l).length (a :: l).length none = (a :: l).length := rfl
    rw [e1, e2, List.take_of_length_le (by rw [List.length_drop]; omega)]
theorem calB_len {ds : List D} (h : ¬ ds.length ≤ 20) : (D.tup ds).calB = false := by
  simp only [D.calB]; rw [decide_eq_false h]; rfl
theorem ints_some : ∀ {ds : List D} {ns : List Int}, D.ints ds = some ns → ds = ns.map D.int
  | [], _, h => by cases h; rfl
  | d :: ds, ns, h => by
    cases d <;> first | cases h | skip
    rename_i i
    simp only [D.ints] at h
    cases e : D.ints ds with
    | none => rw [e] at h; cases h
    | some l => rw [e] at h; cases h; rw [ints_some e]; rfl
theorem kp_is_calendar : Keeps S_is_calendar 4 t_is_calendar := by
  rintro ds M Q R ⟨x, ⟨⟨ht, hl⟩, hf⟩, rfl, q⟩
  cases x with
  | tup ds =>
    obtain ⟨hlen, hf⟩ := hf ds rfl
    simp only [t_is_calendar, dVar, dC, dOp, dUn, dTst, dAnd, dOr, dNot, dAndV, dOrV, dNotV, dIfE, dNil, dCons, dTup, dLst, dNew, dCall, dB, dChain, dNext, dSeq, dDrop, dRet, dRetN, dIf, dAsg, gN, gSeq, gT, dPar2, dPar3, dAug, dRaise, dFor, dYes, dLc, dels, del, put, nth, startN, dFrz, dIx, dPart, dNoP, dSl, dApp, dPut, dM1, dFmt, dJs, dJoined, dIsi, dRg1, dRg2, dLsI, dTpI, dStI, dZip, dEnL, dLsRg1, dLsRg2, dNewK, dNewT, dOneT, dSetSort, dLsZip, dNewCan, oAdd, oSub, oMul, oDiv, oMod, oPow, oLt, oLe, oGt, oGe, oIs, oIsNot, oNeg, oIAdd, D.isN, bLen, bInt, bStr, bAbs, bBool, bList, bTuple, D.ty, D.isInt, D.isBool, D.isStr, D.isTup, D.isLst, List.map_cons, List.map_nil, List.length_cons, List.length_nil, List.replicate_succ, List.replicate_zero, List.cons_append, List.nil_append, Option.isSome_some, if_true, if_false, Bool.false_eq_true, reduceIte, Nat.reduceAdd, Nat.reduceSub, Bool.not_true, Bool.not_false, true_and, and_true]
    by_cases h20 : ds.length ≤ 20
    · rw [decide_eq_false (by omega)]
      simp only [dVar, dC, dOp, dUn, dTst, dAnd, dOr, dNot, dAndV, dOrV, dNotV, dIfE, dNil, dCons, dTup, dLst, dNew, dCall, dB, dChain, dNext, dSeq, dDrop, dRet, dRetN, dIf, dAsg, gN, gSeq, gT, dPar2, dPar3, dAug, dRaise, dFor, dYes, dLc, dels, del, put, nth, startN, dFrz, dIx, dPart, dNoP, dSl, dApp, dPut, dM1, dFmt, dJs, dJoined, dIsi, dRg1, dRg2, dLsI, dTpI, dStI, dZip, dEnL, dLsRg1, dLsRg2, dNewK, dNewT, dOneT, dSetSort, dLsZip, dNewCan, oAdd, oSub, oMul, oDiv, oMod, oPow, oLt, oLe, oGt, oGe, oIs, oIsNot, oNeg, oIAdd, D.isN, bLen, bInt, bStr, bAbs, bBool, bList, bTuple, D.ty, D.isInt, D.isBool, D.isStr, D.isTup, D.isLst, List.map_cons, List.map_nil, List.length_cons, List.length_nil, List.replicate_succ, List.replicate_zero, List.cons_append, List.nil_append, Option.isSome_some, if_true, if_false, Bool.false_eq_true, reduceIte, Nat.reduceAdd, Nat.reduceSub, Bool.not_true, Bool.not_false, true_and, and_true]
      refine ⟨ds, rfl, hlen, lc_map (fun d => .bl (d.inB 0 great)) _ (fun d hd k hk => ?_) ?_⟩
      · simp only [dVar, dC, dOp, dUn, dTst, dAnd, dOr, dNot, dAndV, dOrV, dNotV, dIfE, dNil, dCons, dTup, dLst, dNew, dCall, dB, dChain, dNext, dSeq, dDrop, dRet, dRetN, dIf, dAsg, gN, gSeq, gT, dPar2, dPar3, dAug, dRaise, dFor, dYes, dLc, dels, del, put, nth, startN, dFrz, dIx, dPart, dNoP, dSl, dApp, dPut, dM1, dFmt, dJs, dJoined, dIsi, dRg1, dRg2, dLsI, dTpI, dStI, dZip, dEnL, dLsRg1, dLsRg2, dNewK, dNewT, dOneT, dSetSort, dLsZip, dNewCan, oAdd, oSub, oMul, oDiv, oMod, oPow, oLt, oLe, oGt, oGe, oIs, oIsNot, oNeg, oIAdd, D.isN, bLen, bInt, bStr, bAbs, bBool, bList, bTuple, D.ty, D.isInt, D.isBool, D.isStr, D.isTup, D.isLst, List.map_cons, List.map_nil, List.length_cons, List.length_nil, List.replicate_succ, List.replicate_zero, List.cons_append, List.nil_append, Option.isSome_some, if_true, if_false, Bool.false_eq_true, reduceIte, Nat.reduceAdd, Nat.reduceSub, Bool.not_true, Bool.not_false, true_and, and_true]
        exact ⟨d, 0, great, (hf d hd).1, rfl, hk⟩
      · simp only [bAll]
        refine ⟨ds.map fun d => d.inB 0 great, by rw [List.map_map]; rfl, ?_⟩
        cases ha : (ds.map fun d => d.inB 0 great).all id with
        | true =>
          obtain ⟨ns, rfl, hn⟩ := all_inB ha
          have q' : Q (.bl (ascI ns)) M := by
            simp only [D.calB, ints_map, hn, decide_eq_true h20, Bool.true_and] at q; exact q
          simp only [dVar, dC, dOp, dUn, dTst, dAnd, dOr, dNot, dAndV, dOrV, dNotV, dIfE, dNil, dCons, dTup, dLst, dNew, dCall, dB, dChain, dNext, dSeq, dDrop, dRet, dRetN, dIf, dAsg, gN, gSeq, gT, dPar2, dPar3, dAug, dRaise, dFor, dYes, dLc, dels, del, put, nth, startN, dFrz, dIx, dPart, dNoP, dSl, dApp, dPut, dM1, dFmt, dJs, dJoined, dIsi, dRg1, dRg2, dLsI, dTpI, dStI, dZip, dEnL, dLsRg1, dLsRg2, dNewK, dNewT, dOneT, dSetSort, dLsZip, dNewCan, oAdd, oSub, oMul, oDiv, oMod, oPow, oLt, oLe, oGt, oGe, oIs, oIsNot, oNeg, oIAdd, D.isN, bLen, bInt, bStr, bAbs, bBool, bList, bTuple, D.ty, D.isInt, D.isBool, D.isStr, D.isTup, D.isLst, List.map_cons, List.map_nil, List.length_cons, List.length_nil, List.replicate_succ, List.replicate_zero, List.cons_append, List.nil_append, Option.isSome_some, if_true, if_false, Bool.false_eq_true, reduceIte, Nat.reduceAdd, Nat.reduceSub, Bool.not_true, Bool.not_false, true_and, and_true]
          refine ⟨_, _, rfl, rfl, by rw [zipD_length]; omega, ?_⟩
          rw [cutD1]
          refine lc_map (fun d => .bl (decide (d.pr.1.iv < d.pr.2.iv))) _ (fun d hd k hk => ?_) ?_
          · obtain ⟨a, b, h1, h2, rfl⟩ := mem_zip hd
            obtain ⟨a, _, rfl⟩ := List.mem_map.mp h1
            obtain ⟨b, _, rfl⟩ := List.mem_map.mp (List.mem_of_mem_drop h2)
            simp only [dVar, dC, dOp, dUn, dTst, dAnd, dOr, dNot, dAndV, dOrV, dNotV, dIfE, dNil, dCons, dTup, dLst, dNew, dCall, dB, dChain, dNext, dSeq, dDrop, dRet, dRetN, dIf, dAsg, gN, gSeq, gT, dPar2, dPar3, dAug, dRaise, dFor, dYes, dLc, dels, del, put, nth, startN, dFrz, dIx, dPart, dNoP, dSl, dApp, dPut, dM1, dFmt, dJs, dJoined, dIsi, dRg1, dRg2, dLsI, dTpI, dStI, dZip, dEnL, dLsRg1, dLsRg2, dNewK, dNewT, dOneT, dSetSort, dLsZip, dNewCan, oAdd, oSub, oMul, oDiv, oMod, oPow, oLt, oLe, oGt, oGe, oIs, oIsNot, oNeg, oIAdd, D.isN, bLen, bInt, bStr, bAbs, bBool, bList, bTuple, D.ty, D.isInt, D.isBool, D.isStr, D.isTup, D.isLst, List.map_cons, List.map_nil, List.length_cons, List.length_nil, List.replicate_succ, List.replicate_zero, List.cons_append, List.nil_append, Option.isSome_some, if_true, if_false, Bool.false_eq_true, reduceIte, Nat.reduceAdd, Nat.reduceSub, Bool.not_true, Bool.not_false, true_and, and_true]
            simp only [D.pr, D.iv] at hk
            exact hk
          · simp only [bAll]
            refine ⟨(zipD (ns.map D.int) ((ns.map D.int).drop 1)).map fun d => decide (d.pr.1.iv < d.pr.2.iv), by rw [List.map_map]; rfl, ?_⟩
            rw [zip_ascI]
            exact fg_self q'
        | false =>
          have e : (D.tup ds).calB = false := by
            simp only [D.calB, decide_eq_true h20, Bool.true_and]
            cases ei : D.ints ds with
            | none => rfl
            | some ns =>
              rw [ints_some ei, ints_all] at ha
              dsimp only
              rw [ha]; rfl
          rw [e] at q
          simp only [dVar, dC, dOp, dUn, dTst, dAnd, dOr, dNot, dAndV, dOrV, dNotV, dIfE, dNil, dCons, dTup, dLst, dNew, dCall, dB, dChain, dNext, dSeq, dDrop, dRet, dRetN, dIf, dAsg, gN, gSeq, gT, dPar2, dPar3, dAug, dRaise, dFor, dYes, dLc, dels, del, put, nth, startN, dFrz, dIx, dPart, dNoP, dSl, dApp, dPut, dM1, dFmt, dJs, dJoined, dIsi, dRg1, dRg2, dLsI, dTpI, dStI, dZip, dEnL, dLsRg1, dLsRg2, dNewK, dNewT, dOneT, dSetSort, dLsZip, dNewCan, oAdd, oSub, oMul, oDiv, oMod, oPow, oLt, oLe, oGt, oGe, oIs, oIsNot, oNeg, oIAdd, D.isN, bLen, bInt, bStr, bAbs, bBool, bList, bTuple, D.ty, D.isInt, D.isBool, D.isStr, D.isTup, D.isLst, List.map_cons, List.map_nil, List.length_cons, List.length_nil, List.replicate_succ, List.replicate_zero, List.cons_append, List.nil_append, Option.isSome_some, if_true, if_false, Bool.false_eq_true, reduceIte, Nat.reduceAdd, Nat.reduceSub, Bool.not_true, Bool.not_false, true_and, and_true]
          exact fg_self q
    · rw [calB_len h20] at q
      rw [decide_eq_true (by omega)]
      simp only [dVar, dC, dOp, dUn, dTst, dAnd, dOr, dNot, dAndV, dOrV, dNotV, dIfE, dNil, dCons, dTup, dLst, dNew, dCall, dB, dChain, dNext, dSeq, dDrop, dRet, dRetN, dIf, dAsg, gN, gSeq, gT, dPar2, dPar3, dAug, dRaise, dFor, dYes, dLc, dels, del, put, nth, startN, dFrz, dIx, dPart, dNoP, dSl, dApp, dPut, dM1, dFmt, dJs, dJoined, dIsi, dRg1, dRg2, dLsI, dTpI, dStI, dZip, dEnL, dLsRg1, dLsRg2, dNewK, dNewT, dOneT, dSetSort, dLsZip, dNewCan, oAdd, oSub, oMul, oDiv, oMod, oPow, oLt, oLe, oGt, oGe, oIs, oIsNot, oNeg, oIAdd, D.isN, bLen, bInt, bStr, bAbs, bBool, bList, bTuple, D.ty, D.isInt, D.isBool, D.isStr, D.isTup, D.isLst, List.map_cons, List.map_nil, List.length_cons, List.length_nil, List.replicate_succ, List.replicate_zero, List.cons_append, List.nil_append, Option.isSome_some, if_true, if_false, Bool.false_eq_true, reduceIte, Nat.reduceAdd, Nat.reduceSub, Bool.not_true, Bool.not_false, true_and, and_true]
      exact fg_self q
  | scr _ => cases ht
  | fn _ => cases ht
  | obj _ => cases ht
  | _ => simp only [t_is_calendar, dVar, dC, dOp, dUn, dTst, dAnd, dOr, dNot, dAndV, dOrV, dNotV, dIfE, dNil, dCons, dTup, dLst, dNew, dCall, dB, dChain, dNext, dSeq, dDrop, dRet, dRetN, dIf, dAsg, gN, gSeq, gT, dPar2, dPar3, dAug, dRaise, dFor, dYes, dLc, dels, del, put, nth, startN, dFrz, dIx, dPart, dNoP, dSl, dApp, dPut, dM1, dFmt, dJs, dJoined, dIsi, dRg1, dRg2, dLsI, dTpI, dStI, dZip, dEnL, dLsRg1, dLsRg2, dNewK, dNewT, dOneT, dSetSort, dLsZip, dNewCan, oAdd, oSub, oMul, oDiv, oMod, oPow, oLt, oLe, oGt, oGe, oIs, oIsNot, oNeg, oIAdd, D.isN, bLen, bInt, bStr, bAbs, bBool, bList, bTuple, D.ty, D.isInt, D.isBool, D.isStr, D.isTup, D.isLst, List.map_cons, List.map_nil, List.length_cons, List.length_nil, List.replicate_succ, List.replicate_zero, List.cons_append, List.nil_append, Option.isSome_some, if_true, if_false, Bool.false_eq_true, reduceIte, Nat.reduceAdd, Nat.reduceSub, Bool.not_true, Bool.not_false, true_and, and_true]; exact fg_self q
/-! ### need_* -/
def S_need_house : DSp := fun ds M Q R => ∃ x : D, x.fine2 ∧ ds = [x] ∧ (x.houseB = true → Q .non M) ∧ (x.houseB = false → R (.mk "InvalidHouse" none) M)
def t_need_house : DTS := dIf (dNot (dTst (dCall S_is_house (dCons (dVar 0) (dNil))))) (dRaise "InvalidHouse") (dNext)
theorem kp_need_house : Keeps S_need_house 1 t_need_house := by
  rintro ds M Q R ⟨x, hf, rfl, q1, q2⟩
  simp only [t_need_house, dVar, dC, dOp, dUn, dTst, dAnd, dOr, dNot, dAndV, dOrV, dNotV, dIfE, dNil, dCons, dTup, dLst, dNew, dCall, dB, dChain, dNext, dSeq, dDrop, dRet, dRetN, dIf, dAsg, gN, gSeq, gT, dPar2, dPar3, dAug, dRaise, dFor, dYes, dLc, dels, del, put, nth, startN, dFrz, dIx, dPart, dNoP, dSl, dApp, dPut, dM1, dFmt, dJs, dJoined, dIsi, dRg1, dRg2, dLsI, dTpI, dStI, dZip, dEnL, dLsRg1, dLsRg2, dNewK, dNewT, dOneT, dSetSort, dLsZip, dNewCan, oAdd, oSub, oMul, oDiv, oMod, oPow, oLt, oLe, oGt, oGe, oIs, oIsNot, oNeg, oIAdd, D.isN, bLen, bInt, bStr, bAbs, bBool, bList, bTuple, D.ty, D.isInt, D.isBool, D.isStr, D.isTup, D.isLst, List.map_cons, List.map_nil, List.length_cons, List.length_nil, List.replicate_succ, List.replicate_zero, List.cons_append, List.nil_append, Option.isSome_some, if_true, if_false, Bool.false_eq_true, reduceIte, Nat.reduceAdd, Nat.reduceSub, Bool.not_true, Bool.not_false, true_and, and_true]
  refine ⟨x, hf, rfl, ?_⟩
  dsimp only
  cases h : x.houseB with
  | true => simp only [dVar, dC, dOp, dUn, dTst, dAnd, dOr, dNot, dAndV, dOrV, dNotV, dIfE, dNil, dCons, dTup, dLst, dNew, dCall, dB, dChain, dNext, dSeq, dDrop, dRet, dRetN, dIf, dAsg, gN, gSeq, gT, dPar2, dPar3, dAug, dRaise, dFor, dYes, dLc, dels, del, put, nth, startN, dFrz, dIx, dPart, dNoP, dSl, dApp, dPut, dM1, dFmt, dJs, dJoined, dIsi, dRg1, dRg2, dLsI, dTpI, dStI, dZip, dEnL, dLsRg1, dLsRg2, dNewK, dNewT, dOneT, dSetSort, dLsZip, dNewCan, oAdd, oSub, oMul, oDiv, oMod, oPow, oLt, oLe, oGt, oGe, oIs, oIsNot, oNeg, oIAdd, D.isN, bLen, bInt, bStr, bAbs, bBool, bList, bTuple, D.ty, D.isInt, D.isBool, D.isStr, D.isTup, D.isLst, List.map_cons, List.map_nil, List.length_cons, List.length_nil, List.replicate_succ, List.replicate_zero, List.cons_append, List.nil_append, Option.isSome_some, if_true, if_false, Bool.false_eq_true, reduceIte, Nat.reduceAdd, Nat.reduceSub, Bool.not_true, Bool.not_false, true_and, and_true]; exact fg_self (q1 h)
  | false => simp only [dVar, dC, dOp, dUn, dTst, dAnd, dOr, dNot, dAndV, dOrV, dNotV, dIfE, dNil, dCons, dTup, dLst, dNew, dCall, dB, dChain, dNext, dSeq, dDrop, dRet, dRetN, dIf, dAsg, gN, gSeq, gT, dPar2, dPar3, dAug, dRaise, dFor, dYes, dLc, dels, del, put, nth, startN, dFrz, dIx, dPart, dNoP, dSl, dApp, dPut, dM1, dFmt, dJs, dJoined, dIsi, dRg1, dRg2, dLsI, dTpI, dStI, dZip, dEnL, dLsRg1, dLsRg2, dNewK, dNewT, dOneT, dSetSort, dLsZip, dNewCan, oAdd, oSub, oMul, oDiv, oMod, oPow, oLt, oLe, oGt, oGe, oIs, oIsNot, oNeg, oIAdd, D.isN, bLen, bInt, bStr, bAbs, bBool, bList, bTuple, D.ty, D.isInt, D.isBool, D.isStr, D.isTup, D.isLst, List.map_cons, List.map_nil, List.length_cons, List.length_nil, List.replicate_succ, List.replicate_zero, List.cons_append, List.nil_append, Option.isSome_some, if_true, if_false, Bool.false_eq_true, reduceIte, Nat.reduceAdd, Nat.reduceSub, Bool.not_true, Bool.not_false, true_and, and_true]; exact fg_self (q2 h)
def S_need_calendar : DSp := fun ds M Q R => ∃ x : D, x.fine2 ∧ ds = [x] ∧ (x.calB = true → Q .non M) ∧ (x.calB = false → R (.mk "InvalidCalendar" none) M)
def t_need_calendar : DTS := dIf (dNot (dTst (dCall S_is_calendar (dCons (dVar 0) (dNil))))) (dRaise "InvalidCalendar") (dNext)
theorem kp_need_calendar : Keeps S_need_calendar 1 t_need_calendar := by
  rintro ds M Q R ⟨x, hf, rfl, q1, q2⟩
  simp only [t_need_calendar, dVar, dC, dOp, dUn, dTst, dAnd, dOr, dNot, dAndV, dOrV, dNotV, dIfE, dNil, dCons, dTup, dLst, dNew, dCall, dB, dChain, dNext, dSeq, dDrop, dRet, dRetN, dIf, dAsg, gN, gSeq, gT, dPar2, dPar3, dAug, dRaise, dFor, dYes, dLc, dels, del, put, nth, startN, dFrz, dIx, dPart, dNoP, dSl, dApp, dPut, dM1, dFmt, dJs, dJoined, dIsi, dRg1, dRg2, dLsI, dTpI, dStI, dZip, dEnL, dLsRg1, dLsRg2, dNewK, dNewT, dOneT, dSetSort, dLsZip, dNewCan, oAdd, oSub, oMul, oDiv, oMod, oPow, oLt, oLe, oGt, oGe, oIs, oIsNot, oNeg, oIAdd, D.isN, bLen, bInt, bStr, bAbs, bBool, bList, bTuple, D.ty, D.isInt, D.isBool, D.isStr, D.isTup, D.isLst, List.map_cons, List.map_nil, List.length_cons, List.length_nil, List.replicate_succ, List.replicate_zero, List.cons_append, List.nil_append, Option.isSome_some, if_true, if_false, Bool.false_eq_true, reduceIte, Nat.reduceAdd, Nat.reduceSub, Bool.not_true, Bool.not_false, true_and, and_true]
  refine ⟨x, hf, rfl, ?_⟩
  dsimp only
  cases h : x.calB with
  | true => simp only [dVar, dC, dOp, dUn, dTst, dAnd, dOr, dNot, dAndV, dOrV, dNotV, dIfE, dNil, dCons, dTup, dLst, dNew, dCall, dB, dChain, dNext, dSeq, dDrop, dRet, dRetN, dIf, dAsg, gN, gSeq, gT, dPar2, dPar3, dAug, dRaise, dFor, dYes, dLc, dels, del, put, nth, startN, dFrz, dIx, dPart, dNoP, dSl, dApp, dPut, dM1, dFmt, dJs, dJoined, dIsi, dRg1, dRg2, dLsI, dTpI, dStI, dZip, dEnL, dLsRg1, dLsRg2, dNewK, dNewT, dOneT, dSetSort, dLsZip, dNewCan, oAdd, oSub, oMul, oDiv, oMod, oPow, oLt, oLe, oGt, oGe, oIs, oIsNot, oNeg, oIAdd, D.isN, bLen, bInt, bStr, bAbs, bBool, bList, bTuple, D.ty, D.isInt, D.isBool, D.isStr, D.isTup, D.isLst, List.map_cons, List.map_nil, List.length_cons, List.length_nil, List.replicate_succ, List.replicate_zero, List.cons_append, List.nil_append, Option.isSome_some, if_true, if_false, Bool.false_eq_true, reduceIte, Nat.reduceAdd, Nat.reduceSub, Bool.not_true, Bool.not_false, true_and, and_true]; exact fg_self (q1 h)
  | false => simp only [dVar, dC, dOp, dUn, dTst, dAnd, dOr, dNot, dAndV, dOrV, dNotV, dIfE, dNil, dCons, dTup, dLst, dNew, dCall, dB, dChain, dNext, dSeq, dDrop, dRet, dRetN, dIf, dAsg, gN, gSeq, gT, dPar2, dPar3, dAug, dRaise, dFor, dYes, dLc, dels, del, put, nth, startN, dFrz, dIx, dPart, dNoP, dSl, dApp, dPut, dM1, dFmt, dJs, dJoined, dIsi, dRg1, dRg2, dLsI, dTpI, dStI, dZip, dEnL, dLsRg1, dLsRg2, dNewK, dNewT, dOneT, dSetSort, dLsZip, dNewCan, oAdd, oSub, oMul, oDiv, oMod, oPow, oLt, oLe, oGt, oGe, oIs, oIsNot, oNeg, oIAdd, D.isN, bLen, bInt, bStr, bAbs, bBool, bList, bTuple, D.ty, D.isInt, D.isBool, D.isStr, D.isTup, D.isLst, List.map_cons, List.map_nil, List.length_cons, List.length_nil, List.replicate_succ, List.replicate_zero, List.cons_append, List.nil_append, Option.isSome_some, if_true, if_false, Bool.false_eq_true, reduceIte, Nat.reduceAdd, Nat.reduceSub, Bool.not_true, Bool.not_false, true_and, and_true]; exact fg_self (q2 h)
def S_need_day : DSp := fun ds M Q R => ∃ x : D, x.ty.isSome = true ∧ ds = [x] ∧ (x.inB 0 great = true → Q .non M) ∧ (x.inB 0 great = false → R (.mk "InvalidDay" none) M)
def t_need_day : DTS := dIf (dNot (dTst (dCall S_is_integer (dCons (dVar 0) (dCons (dC (.int 0)) (dCons (dC (.int 1000000000000000000000000000000)) (dNil))))))) (dRaise "InvalidDay") (dNext)
theorem kp_need_day : Keeps S_need_day 1 t_need_day := by
  rintro ds M Q R ⟨x, hf, rfl, q1, q2⟩
  simp only [t_need_day, dVar, dC, dOp, dUn, dTst, dAnd, dOr, dNot, dAndV, dOrV, dNotV, dIfE, dNil, dCons, dTup, dLst, dNew, dCall, dB, dChain, dNext, dSeq, dDrop, dRet, dRetN, dIf, dAsg, gN, gSeq, gT, dPar2, dPar3, dAug, dRaise, dFor, dYes, dLc, dels, del, put, nth, startN, dFrz, dIx, dPart, dNoP, dSl, dApp, dPut, dM1, dFmt, dJs, dJoined, dIsi, dRg1, dRg2, dLsI, dTpI, dStI, dZip, dEnL, dLsRg1, dLsRg2, dNewK, dNewT, dOneT, dSetSort, dLsZip, dNewCan, oAdd, oSub, oMul, oDiv, oMod, oPow, oLt, oLe, oGt, oGe, oIs, oIsNot, oNeg, oIAdd, D.isN, bLen, bInt, bStr, bAbs, bBool, bList, bTuple, D.ty, D.isInt, D.isBool, D.isStr, D.isTup, D.isLst, List.map_cons, List.map_nil, List.length_cons, List.length_nil, List.replicate_succ, List.replicate_zero, List.cons_append, List.nil_append, Option.isSome_some, if_true, if_false, Bool.false_eq_true, reduceIte, Nat.reduceAdd, Nat.reduceSub, Bool.not_true, Bool.not_false, true_and, and_true]
  refine ⟨x, _, _, hf, rfl, ?_⟩
  dsimp only
  cases h : x.inB 0 great with
  | true => simp only [dVar, dC, dOp, dUn, dTst, dAnd, dOr, dNot, dAndV, dOrV, dNotV, dIfE, dNil, dCons, dTup, dLst, dNew, dCall, dB, dChain, dNext, dSeq, dDrop, dRet, dRetN, dIf, dAsg, gN, gSeq, gT, dPar2, dPar3, dAug, dRaise, dFor, dYes, dLc, dels, del, put, nth, startN, dFrz, dIx, dPart, dNoP, dSl, dApp, dPut, dM1, dFmt, dJs, dJoined, dIsi, dRg1, dRg2, dLsI, dTpI, dStI, dZip, dEnL, dLsRg1, dLsRg2, dNewK, dNewT, dOneT, dSetSort, dLsZip, dNewCan, oAdd, oSub, oMul, oDiv, oMod, oPow, oLt, oLe, oGt, oGe, oIs, oIsNot, oNeg, oIAdd, D.isN, bLen, bInt, bStr, bAbs, bBool, bList, bTuple, D.ty, D.isInt, D.isBool, D.isStr, D.isTup, D.isLst, List.map_cons, List.map_nil, List.length_cons, List.length_nil, List.replicate_succ, List.replicate_zero, List.cons_append, List.nil_append, Option.isSome_some, if_true, if_false, Bool.false_eq_true, reduceIte, Nat.reduceAdd, Nat.reduceSub, Bool.not_true, Bool.not_false, true_and, and_true]; exact fg_self (q1 h)
  | false => simp only [dVar, dC, dOp, dUn, dTst, dAnd, dOr, dNot, dAndV, dOrV, dNotV, dIfE, dNil, dCons, dTup, dLst, dNew, dCall, dB, dChain, dNext, dSeq, dDrop, dRet, dRetN, dIf, dAsg, gN, gSeq, gT, dPar2, dPar3, dAug, dRaise, dFor, dYes, dLc, dels, del, put, nth, startN, dFrz, dIx, dPart, dNoP, dSl, dApp, dPut, dM1, dFmt, dJs, dJoined, dIsi, dRg1, dRg2, dLsI, dTpI, dStI, dZip, dEnL, dLsRg1, dLsRg2, dNewK, dNewT, dOneT, dSetSort, dLsZip, dNewCan, oAdd, oSub, oMul, oDiv, oMod, oPow, oLt, oLe, oGt, oGe, oIs, oIsNot, oNeg, oIAdd, D.isN, bLen, bInt, bStr, bAbs, bBool, bList, bTuple, D.ty, D.isInt, D.isBool, D.isStr, D.isTup, D.isLst, List.map_cons, List.map_nil, List.length_cons, List.length_nil, List.replicate_succ, List.replicate_zero, List.cons_append, List.nil_append, Option.isSome_some, if_true, if_false, Bool.false_eq_true, reduceIte, Nat.reduceAdd, Nat.reduceSub, Bool.not_true, Bool.not_false, true_and, and_true]; exact fg_self (q2 h)
def S_need_number : DSp := fun ds M Q R => ∃ (x : D) (lo hi : Int), x.ty.isSome = true ∧ ds = [x, .int lo, .int hi] ∧ (x.inB lo hi = true → Q .non M) ∧ (x.inB lo hi = false → R (.mk "InvalidNumber" none) M)
def t_need_number : DTS := dIf (dNot (dTst (dCall S_is_integer (dCons (dVar 0) (dCons (dVar 1) (dCons (dVar 2) (dNil))))))) (dRaise "InvalidNumber") (dNext)
theorem kp_need_number : Keeps S_need_number 3 t_need_number := by
  rintro ds M Q R ⟨x, lo, hi, hf, rfl, q1, q2⟩
  simp only [t_need_number, dVar, dC, dOp, dUn, dTst, dAnd, dOr, dNot, dAndV, dOrV, dNotV, dIfE, dNil, dCons, dTup, dLst, dNew, dCall, dB, dChain, dNext, dSeq, dDrop, dRet, dRetN, dIf, dAsg, gN, gSeq, gT, dPar2, dPar3, dAug, dRaise, dFor, dYes, dLc, dels, del, put, nth, startN, dFrz, dIx, dPart, dNoP, dSl, dApp, dPut, dM1, dFmt, dJs, dJoined, dIsi, dRg1, dRg2, dLsI, dTpI, dStI, dZip, dEnL, dLsRg1, dLsRg2, dNewK, dNewT, dOneT, dSetSort, dLsZip, dNewCan, oAdd, oSub, oMul, oDiv, oMod, oPow, oLt, oLe, oGt, oGe, oIs, oIsNot, oNeg, oIAdd, D.isN, bLen, bInt, bStr, bAbs, bBool, bList, bTuple, D.ty, D.isInt, D.isBool, D.isStr, D.isTup, D.isLst, List.map_cons, List.map_nil, List.length_cons, List.length_nil, List.replicate_succ, List.replicate_zero, List.cons_append, List.nil_append, Option.isSome_some, if_true, if_false, Bool.false_eq_true, reduceIte, Nat.reduceAdd, Nat.reduceSub, Bool.not_true, Bool.not_false, true_and, and_true]
  refine ⟨x, _, _, hf, rfl, ?_⟩
  dsimp only
  cases h : x.inB lo hi with
  | true => simp only [dVar, dC, dOp, dUn, dTst, dAnd, dOr, dNot, dAndV, dOrV, dNotV, dIfE, dNil, dCons, dTup, dLst, dNew, dCall, dB, dChain, dNext, dSeq, dDrop, dRet, dRetN, dIf, dAsg, gN, gSeq, gT, dPar2, dPar3, dAug, dRaise, dFor, dYes, dLc, dels, del, put, nth, startN, dFrz, dIx, dPart, dNoP, dSl, dApp, dPut, dM1, dFmt, dJs, dJoined, dIsi, dRg1, dRg2, dLsI, dTpI, dStI, dZip, dEnL, dLsRg1, dLsRg2, dNewK, dNewT, dOneT, dSetSort, dLsZip, dNewCan, oAdd, oSub, oMul, oDiv, oMod, oPow, oLt, oLe, oGt, oGe, oIs, oIsNot, oNeg, oIAdd, D.isN, bLen, bInt, bStr, bAbs, bBool, bList, bTuple, D.ty, D.isInt, D.isBool, D.isStr, D.isTup, D.isLst, List.map_cons, List.map_nil, List.length_cons, List.length_nil, List.replicate_succ, List.replicate_zero, List.cons_append, List.nil_append, Option.isSome_some, if_true, if_false, Bool.false_eq_true, reduceIte, Nat.reduceAdd, Nat.reduceSub, Bool.not_true, Bool.not_false, true_and, and_true]; exact fg_self (q1 h)
  | false => simp only [dVar, dC, dOp, dUn, dTst, dAnd, dOr, dNot, dAndV, dOrV, dNotV, dIfE, dNil, dCons, dTup, dLst, dNew, dCall, dB, dChain, dNext, dSeq, dDrop, dRet, dRetN, dIf, dAsg, gN, gSeq, gT, dPar2, dPar3, dAug, dRaise, dFor, dYes, dLc, dels, del, put, nth, startN, dFrz, dIx, dPart, dNoP, dSl, dApp, dPut, dM1, dFmt, dJs, dJoined, dIsi, dRg1, dRg2, dLsI, dTpI, dStI, dZip, dEnL, dLsRg1, dLsRg2, dNewK, dNewT, dOneT, dSetSort, dLsZip, dNewCan, oAdd, oSub, oMul, oDiv, oMod, oPow, oLt, oLe, oGt, oGe, oIs, oIsNot, oNeg, oIAdd, D.isN, bLen, bInt, bStr, bAbs, bBool, bList, bTuple, D.ty, D.isInt, D.isBool, D.isStr, D.isTup, D.isLst, List.map_cons, List.map_nil, List.length_cons, List.length_nil, List.replicate_succ, List.replicate_zero, List.cons_append, List.nil_append, Option.isSome_some, if_true, if_false, Bool.false_eq_true, reduceIte, Nat.reduceAdd, Nat.reduceSub, Bool.not_true, Bool.not_false, true_and, and_true]; exact fg_self (q2 h)
def S_need_kind : DSp := fun ds M Q R => ∃ x y : D, x.ty.isSome = true ∧ (x.inB 0 7 = true → y.fine) ∧ ds = [x, y] ∧ (x.inB 0 7 = true → y.wkB = true → Q .non M) ∧ (x.inB 0 7 = false → R (.mk "InvalidNumber" none) M) ∧ (x.inB 0 7 = true → y.wkB = false → R (.mk "InvalidWeekdays" none) M)
def t_need_kind : DTS := dSeq (dDrop (dCall S_need_number (dCons (dVar 0) (dCons (dC (.int 0)) (dCons (dC (.int 7)) (dNil)))))) (dIf (dNot (dTst (dCall S_are_weekdays (dCons (dVar 1) (dNil))))) (dRaise "InvalidWeekdays") (dNext))
theorem kp_need_kind : Keeps S_need_kind 2 t_need_kind := by
  rintro ds M Q R ⟨x, y, hf, hg, rfl, q1, q2, q3⟩
  simp only [t_need_kind, dVar, dC, dOp, dUn, dTst, dAnd, dOr, dNot, dAndV, dOrV, dNotV, dIfE, dNil, dCons, dTup, dLst, dNew, dCall, dB, dChain, dNext, dSeq, dDrop, dRet, dRetN, dIf, dAsg, gN, gSeq, gT, dPar2, dPar3, dAug, dRaise, dFor, dYes, dLc, dels, del, put, nth, startN, dFrz, dIx, dPart, dNoP, dSl, dApp, dPut, dM1, dFmt, dJs, dJoined, dIsi, dRg1, dRg2, dLsI, dTpI, dStI, dZip, dEnL, dLsRg1, dLsRg2, dNewK, dNewT, dOneT, dSetSort, dLsZip, dNewCan, oAdd, oSub, oMul, oDiv, oMod, oPow, oLt, oLe, oGt, oGe, oIs, oIsNot, oNeg, oIAdd, D.isN, bLen, bInt, bStr, bAbs, bBool, bList, bTuple, D.ty, D.isInt, D.isBool, D.isStr, D.isTup, D.isLst, List.map_cons, List.map_nil, List.length_cons, List.length_nil, List.replicate_succ, List.replicate_zero, List.cons_append, List.nil_append, Option.isSome_some, if_true, if_false, Bool.false_eq_true, reduceIte, Nat.reduceAdd, Nat.reduceSub, Bool.not_true, Bool.not_false, true_and, and_true]
  refine ⟨x, _, _, hf, rfl, fun h => ?_, fun h => fg_self (q2 h)⟩
  refine ⟨y, hg h, rfl, ?_⟩
  dsimp only
  cases hw : y.wkB with
  | true => simp only [dVar, dC, dOp, dUn, dTst, dAnd, dOr, dNot, dAndV, dOrV, dNotV, dIfE, dNil, dCons, dTup, dLst, dNew, dCall, dB, dChain, dNext, dSeq, dDrop, dRet, dRetN, dIf, dAsg, gN, gSeq, gT, dPar2, dPar3, dAug, dRaise, dFor, dYes, dLc, dels, del, put, nth, startN, dFrz, dIx, dPart, dNoP, dSl, dApp, dPut, dM1, dFmt, dJs, dJoined, dIsi, dRg1, dRg2, dLsI, dTpI, dStI, dZip, dEnL, dLsRg1, dLsRg2, dNewK, dNewT, dOneT, dSetSort, dLsZip, dNewCan, oAdd, oSub, oMul, oDiv, oMod, oPow, oLt, oLe, oGt, oGe, oIs, oIsNot, oNeg, oIAdd, D.isN, bLen, bInt, bStr, bAbs, bBool, bList, bTuple, D.ty, D.isInt, D.isBool, D.isStr, D.isTup, D.isLst, List.map_cons, List.map_nil, List.length_cons, List.length_nil, List.replicate_succ, List.replicate_zero, List.cons_append, List.nil_append, Option.isSome_some, if_true, if_false, Bool.false_eq_true, reduceIte, Nat.reduceAdd, Nat.reduceSub, Bool.not_true, Bool.not_false, true_and, and_true]; exact fg_self (q1 h hw)
  | false => simp only [dVar, dC, dOp, dUn, dTst, dAnd, dOr, dNot, dAndV, dOrV, dNotV, dIfE, dNil, dCons, dTup, dLst, dNew, dCall, dB, dChain, dNext, dSeq, dDrop, dRet, dRetN, dIf, dAsg, gN, gSeq, gT, dPar2, dPar3, dAug, dRaise, dFor, dYes, dLc, dels, del, put, nth, startN, dFrz, dIx, dPart, dNoP, dSl, dApp, dPut, dM1, dFmt, dJs, dJoined, dIsi, dRg1, dRg2, dLsI, dTpI, dStI, dZip, dEnL, dLsRg1, dLsRg2, dNewK, dNewT, dOneT, dSetSort, dLsZip, dNewCan, oAdd, oSub, oMul, oDiv, oMod, oPow, oLt, oLe, oGt, oGe, oIs, oIsNot, oNeg, oIAdd, D.isN, bLen, bInt, bStr, bAbs, bBool, bList, bTuple, D.ty, D.isInt, D.isBool, D.isStr, D.isTup, D.isLst, List.map_cons, List.map_nil, List.length_cons, List.length_nil, List.replicate_succ, List.replicate_zero, List.cons_append, List.nil_append, Option.isSome_some, if_true, if_false, Bool.false_eq_true, reduceIte, Nat.reduceAdd, Nat.reduceSub, Bool.not_true, Bool.not_false, true_and, and_true]; exact fg_self (q3 h hw)
end Dl
namespace Dl
open PySem
/-! # running: when rounds are done -/
def cal (ns : List Int) : D := .tup (ns.map D.int)
/-- waits behind k days from b on -/
def wr (h : Hs) (ns : List Int) (b : Nat) : Nat → Int → Int
  | 0, w => w
  | k + 1, w => wb h ((b + k : Nat) : Int) (wr h ns b k w) (decide (((b + k : Nat) : Int) ∈ ns))
def wa (h : Hs) (ns : List Int) (n : Nat) : Int := wr h ns 0 n 0
theorem wr_add (h : Hs) (ns : List Int) (b j : Nat) (w : Int) : ∀ k, wr h ns b (j + k) w = wr h ns (b + j) k (wr h ns b j w)
  | 0 => rfl
  | k + 1 => by
    have e : wr h ns b (j + (k + 1)) w = wb h ((b + (j + k) : Nat) : Int) (wr h ns b (j + k) w) (decide (((b + (j + k) : Nat) : Int) ∈ ns)) := rfl
    rw [e, wr_add h ns b j w k, ← Nat.add_assoc]; rfl
theorem any_cal (x : Int) : ∀ ns : List Int, D.any (.int x) (ns.map D.int) = decide (x ∈ ns)
  | [] => rfl
  | a :: ns => by
    rw [List.map_cons, D.any, any_cal x ns, eqv_int]
    by_cases h : a = x
    · subst h; simp
    · rw [decide_eq_false h, Bool.false_or]; apply decide_eq_decide.mpr; simp [Ne.symm h]
theorem flat_ints (ns : List Int) : (ns.map D.int).all D.flat = true := by
  rw [List.all_map, List.all_eq_true]; intro _ _; rfl
theorem in_cal (x : Int) (ns : List Int) (M : Mem) (Q : DQ) (q : Q (.bl (decide (x ∈ ns))) M) : qIn false (.int x) (cal ns) M Q := by
  refine ⟨⟨rfl, flat_ints ns⟩, ?_⟩
  rw [any_cal, xorf]; exact q
def S_week_behind : DSp := fun ds M Q R => ∃ (h : Hs) (ns : List Int) (b : Nat) (w : Int), h.Ok ∧ ds = [h.d, cal ns, .int (b : Int), .int w] ∧ Q (.int (wr h ns b 7 w)) M
def t_week_behind : DTS := dSeq (dFor (dRg2 (dVar 2) (dOp oAdd (dVar 2) (dC (.int 7)))) (gN 4) (dAsg (dCall S_waits_behind (dCons (dVar 0) (dCons (dVar 4) (dCons (dVar 3) (dCons (dOp (qIn false) (dVar 4) (dVar 1)) (dNil)))))) (gN 3))) (dRet (dVar 3))
theorem kp_week_behind : Keeps S_week_behind 5 t_week_behind := by
  rintro ds M Q R ⟨h, ns, b, w, ok, rfl, q⟩
  simp only [t_week_behind, dVar, dC, dOp, dUn, dTst, dAnd, dOr, dNot, dAndV, dOrV, dNotV, dIfE, dNil, dCons, dTup, dLst, dNew, dCall, dB, dChain, dNext, dSeq, dDrop, dRet, dRetN, dIf, dAsg, gN, gSeq, gT, dPar2, dPar3, dAug, dRaise, dFor, dYes, dLc, dels, del, put, nth, startN, dFrz, dIx, dPart, dNoP, dSl, dApp, dPut, dM1, dFmt, dJs, dJoined, dIsi, dRg1, dRg2, dLsI, dTpI, dStI, dZip, dEnL, dLsRg1, dLsRg2, dNewK, dNewT, dOneT, dSetSort, dLsZip, dNewCan, oAdd, oSub, oMul, oDiv, oMod, oPow, oLt, oLe, oGt, oGe, oIs, oIsNot, oNeg, oIAdd, D.isN, bLen, bInt, bStr, bAbs, bBool, bList, bTuple, D.ty, D.isInt, D.isBool, D.isStr, D.isTup, D.isLst, List.map_cons, List.map_nil, List.length_cons, List.length_nil, List.replicate_succ, List.replicate_zero, List.cons_append, List.nil_append, Option.isSome_some, if_true, if_false, Bool.false_eq_true, reduceIte, Nat.reduceAdd, Nat.reduceSub, Bool.not_true, Bool.not_false, true_and, and_true]
  refine ⟨_, _, rfl, rfl, ?_⟩
  have e7 : ((b : Int) + 7 - b).toNat = 7 := by omega
  rw [e7]
  refine loop_inv (fun i ρ M' => M' = M ∧ ∃ o, ρ = [some h.d, some (cal ns), some (.int (b : Int)), some (.int (wr h ns b i w)), o]) _ ⟨rfl, _, rfl⟩ ?_ ?_
  · rintro i d ρ M' N hd ⟨rfl, o, rfl⟩ hN
    have hi : i < 7 := by
      have := (List.getElem?_eq_some_iff.mp hd).1
      rwa [rgD_length] at this
    rw [rgD_get hi] at hd
    cases hd
    simp only [dVar, dC, dOp, dUn, dTst, dAnd, dOr, dNot, dAndV, dOrV, dNotV, dIfE, dNil, dCons, dTup, dLst, dNew, dCall, dB, dChain, dNext, dSeq, dDrop, dRet, dRetN, dIf, dAsg, gN, gSeq, gT, dPar2, dPar3, dAug, dRaise, dFor, dYes, dLc, dels, del, put, nth, startN, dFrz, dIx, dPart, dNoP, dSl, dApp, dPut, dM1, dFmt, dJs, dJoined, dIsi, dRg1, dRg2, dLsI, dTpI, dStI, dZip, dEnL, dLsRg1, dLsRg2, dNewK, dNewT, dOneT, dSetSort, dLsZip, dNewCan, oAdd, oSub, oMul, oDiv, oMod, oPow, oLt, oLe, oGt, oGe, oIs, oIsNot, oNeg, oIAdd, D.isN, bLen, bInt, bStr, bAbs, bBool, bList, bTuple, D.ty, D.isInt, D.isBool, D.isStr, D.isTup, D.isLst, List.map_cons, List.map_nil, List.length_cons, List.length_nil, List.replicate_succ, List.replicate_zero, List.cons_append, List.nil_append, Option.isSome_some, if_true, if_false, Bool.false_eq_true, reduceIte, Nat.reduceAdd, Nat.reduceSub, Bool.not_true, Bool.not_false, true_and, and_true]
    rw [show (b : Int) + (i : Nat) = ((b + i : Nat) : Int) by omega]
    exact in_cal _ _ _ _ ⟨h, _, _, _, ok, rfl, hN _ _ ⟨rfl, _, rfl⟩⟩
  · rintro ρ M' ⟨rfl, o, rfl⟩
    rw [rgD_length]
    simp only [dVar, dC, dOp, dUn, dTst, dAnd, dOr, dNot, dAndV, dOrV, dNotV, dIfE, dNil, dCons, dTup, dLst, dNew, dCall, dB, dChain, dNext, dSeq, dDrop, dRet, dRetN, dIf, dAsg, gN, gSeq, gT, dPar2, dPar3, dAug, dRaise, dFor, dYes, dLc, dels, del, put, nth, startN, dFrz, dIx, dPart, dNoP, dSl, dApp, dPut, dM1, dFmt, dJs, dJoined, dIsi, dRg1, dRg2, dLsI, dTpI, dStI, dZip, dEnL, dLsRg1, dLsRg2, dNewK, dNewT, dOneT, dSetSort, dLsZip, dNewCan, oAdd, oSub, oMul, oDiv, oMod, oPow, oLt, oLe, oGt, oGe, oIs, oIsNot, oNeg, oIAdd, D.isN, bLen, bInt, bStr, bAbs, bBool, bList, bTuple, D.ty, D.isInt, D.isBool, D.isStr, D.isTup, D.isLst, List.map_cons, List.map_nil, List.length_cons, List.length_nil, List.replicate_succ, List.replicate_zero, List.cons_append, List.nil_append, Option.isSome_some, if_true, if_false, Bool.false_eq_true, reduceIte, Nat.reduceAdd, Nat.reduceSub, Bool.not_true, Bool.not_false, true_and, and_true]
    exact fg_self q
theorem wr_free (h : Hs) (ns : List Int) (b b' : Nat) (hb : b % 7 = b' % 7) (w : Int) : ∀ k, (∀ j, j < k → (((b + j : Nat) : Int) ∈ ns ↔ ((b' + j : Nat) : Int) ∈ ns)) → wr h ns b k w = wr h ns b' k w
  | 0, _ => rfl
  | k + 1, hj => by
    have h1 := wr_free h ns b b' hb w k fun j h => hj j (by omega)
    have h2 : md7 ((b + k : Nat) : Int) = md7 ((b' + k : Nat) : Int) := by unfold md7; omega
    show wb h _ _ _ = wb h _ _ _
    unfold wb bo mdn
    rw [h1, h2, decide_eq_decide.mpr (hj k (by omega))]
/-- weeks that change nothing -/
theorem wr_weeks (h : Hs) (ns : List Int) (b : Nat) (w : Int) (h7 : wr h ns b 7 w = w) (k : Nat) (hf : ∀ j, j < 7 * (k + 1) → ((b + j : Nat) : Int) ∉ ns) : wr h ns b (7 * (k + 1)) w = w := by
  induction k with
  | zero => exact h7
  | succ k ih =>
    rw [show 7 * (k + 1 + 1) = 7 * (k + 1) + 7 by omega, wr_add, ih fun j hj => hf j (by omega)]
    rw [← wr_free h ns b (b + 7 * (k + 1)) (by omega) w 7 fun j hj => ⟨fun z => absurd z (hf j (by omega)), fun z => absurd z (by rw [Nat.add_assoc]; exact hf _ (by omega))⟩]
    exact h7
def S_waits_ahead : DSp := fun ds M Q R => ∃ (h : Hs) (ns : List Int) (g : Nat), h.Ok ∧ ns.length ≤ 20 ∧ ds = [h.d, cal ns, .int (g : Int)] ∧ Q (.int (wa h ns g)) M
def t_waits_ahead : DTS := dSeq (dAsg (dTup (dCons (dC (.int 0)) (dCons (dC (.int 0)) (dNil)))) (gT [gN 3, gN 4])) (dSeq (dWhile (dTst (dOp oLe (dOp oAdd (dVar 3) (dC (.int 7))) (dVar 2))) (dSeq (dAsg (dCall S_week_behind (dCons (dVar 0) (dCons (dVar 1) (dCons (dVar 3) (dCons (dVar 4) (dNil)))))) (gN 5)) (dSeq (dAsg (dOp oAdd (dVar 3) (dC (.int 7))) (gN 6)) (dSeq (dIf (dAnd (dTst (dOp oEq (dVar 5) (dVar 4))) (dNot (dTst (dB bAny (dCons (dLc [8] (dTpI (dVar 1)) (gN 8) (dYes) (dChain oLe oLt (dVar 3) (dVar 8) (dVar 6))) (dNil)))))) (dSeq (dAsg (dLc [8] (dTpI (dVar 1)) (gN 8) (dTst (dOp oGe (dVar 8) (dVar 6))) (dOp oSub (dVar 8) (dOp oMod (dVar 8) (dC (.int 7))))) (gN 7)) (dAsg (dB bMax (dCons (dVar 6) (dCons (dB bMin (dCons (dOp oAdd (dVar 7) (dLst (dCons (dOp oSub (dVar 2) (dOp oMod (dVar 2) (dC (.int 7)))) (dNil)))) (dNil))) (dNil)))) (gN 6))) (dNext)) (dAsg (dTup (dCons (dVar 6) (dCons (dVar 5) (dNil)))) (gT [gN 3, gN 4])))))) (dSeq (dFor (dRg2 (dVar 3) (dVar 2)) (gN 8) (dAsg (dCall S_waits_behind (dCons (dVar 0) (dCons (dVar 8) (dCons (dVar 4) (dCons (dOp (qIn false) (dVar 8) (dVar 1)) (dNil)))))) (gN 4))) (dRet (dVar 4))))
theorem min_of : ∀ (ns : List Int), ns ≠ [] → ∃ m, m ∈ ns ∧ ∀ y, y ∈ ns → m ≤ y
  | [a], _ => ⟨a, by simp, by simp⟩
  | a :: b :: l, _ => by
    obtain ⟨m, h1, h2⟩ := min_of (b :: l) (by simp)
    by_cases h : a ≤ m
    · refine ⟨a, by simp, fun y hy => ?_⟩
      rcases List.mem_cons.mp hy with e | e
      · rw [e]; exact Int.le_refl _
      · exact Int.le_trans h (h2 y e)
    · refine ⟨m, List.mem_cons_of_mem _ h1, fun y hy => ?_⟩
      rcases List.mem_cons.mp hy with e | e
      · rw [e]; omega
      · exact h2 y e
theorem kp_waits_ahead : Keeps S_waits_ahead 9 t_waits_ahead := by
  rintro ds M Q R ⟨h, ns, g, ok, hl, rfl, q⟩
  simp only [t_waits_ahead, dVar, dC, dOp, dUn, dTst, dAnd, dOr, dNot, dAndV, dOrV, dNotV, dIfE, dNil, dCons, dTup, dLst, dNew, dCall, dB, dChain, dNext, dSeq, dDrop, dRet, dRetN, dIf, dAsg, gN, gSeq, gT, dPar2, dPar3, dAug, dRaise, dFor, dYes, dLc, dels, del, put, nth, startN, dFrz, dIx, dPart, dNoP, dSl, dApp, dPut, dM1, dFmt, dJs, dJoined, dIsi, dRg1, dRg2, dLsI, dTpI, dStI, dZip, dEnL, dLsRg1, dLsRg2, dNewK, dNewT, dOneT, dSetSort, dLsZip, dNewCan, oAdd, oSub, oMul, oDiv, oMod, oPow, oLt, oLe, oGt, oGe, oIs, oIsNot, oNeg, oIAdd, D.isN, bLen, bInt, bStr, bAbs, bBool, bList, bTuple, D.ty, D.isInt, D.isBool, D.isStr, D.isTup, D.isLst, List.map_cons, List.map_nil, List.length_cons, List.length_nil, List.replicate_succ, List.replicate_zero, List.cons_append, List.nil_append, Option.isSome_some, if_true, if_false, Bool.false_eq_true, reduceIte, Nat.reduceAdd, Nat.reduceSub, Bool.not_true, Bool.not_false, true_and, and_true, gSeq]
  refine ⟨by decide, ?_⟩
  refine while_inv (fun m ρ M' => M' = M ∧ ∃ (b : Nat) (o5 o6 o7 : Option D), b % 7 = 0 ∧ b ≤ g ∧ m = g - b ∧ ρ = [some h.d, some (cal ns), some (.int (g : Int)), some (.int (b : Int)), some (.int (wa h ns b)), o5, o6, o7, none]) (m := g) ⟨rfl, 0, none, none, none, rfl, Nat.zero_le _, rfl, rfl⟩ ?_
  rintro m ρ M' N ⟨rfl, b, o5, o6, o7, hb7, hbg, rfl, rfl⟩ hN
  simp only [dVar, dC, dOp, dUn, dTst, dAnd, dOr, dNot, dAndV, dOrV, dNotV, dIfE, dNil, dCons, dTup, dLst, dNew, dCall, dB, dChain, dNext, dSeq, dDrop, dRet, dRetN, dIf, dAsg, gN, gSeq, gT, dPar2, dPar3, dAug, dRaise, dFor, dYes, dLc, dels, del, put, nth, startN, dFrz, dIx, dPart, dNoP, dSl, dApp, dPut, dM1, dFmt, dJs, dJoined, dIsi, dRg1, dRg2, dLsI, dTpI, dStI, dZip, dEnL, dLsRg1, dLsRg2, dNewK, dNewT, dOneT, dSetSort, dLsZip, dNewCan, oAdd, oSub, oMul, oDiv, oMod, oPow, oLt, oLe, oGt, oGe, oIs, oIsNot, oNeg, oIAdd, D.isN, bLen, bInt, bStr, bAbs, bBool, bList, bTuple, D.ty, D.isInt, D.isBool, D.isStr, D.isTup, D.isLst, List.map_cons, List.map_nil, List.length_cons, List.length_nil, List.replicate_succ, List.replicate_zero, List.cons_append, List.nil_append, Option.isSome_some, if_true, if_false, Bool.false_eq_true, reduceIte, Nat.reduceAdd, Nat.reduceSub, Bool.not_true, Bool.not_false, true_and, and_true]
  by_cases hlt : b + 7 ≤ g
  · rw [decide_eq_true (show (b : Int) + 7 ≤ g by omega)]
    simp only [dVar, dC, dOp, dUn, dTst, dAnd, dOr, dNot, dAndV, dOrV, dNotV, dIfE, dNil, dCons, dTup, dLst, dNew, dCall, dB, dChain, dNext, dSeq, dDrop, dRet, dRetN, dIf, dAsg, gN, gSeq, gT, dPar2, dPar3, dAug, dRaise, dFor, dYes, dLc, dels, del, put, nth, startN, dFrz, dIx, dPart, dNoP, dSl, dApp, dPut, dM1, dFmt, dJs, dJoined, dIsi, dRg1, dRg2, dLsI, dTpI, dStI, dZip, dEnL, dLsRg1, dLsRg2, dNewK, dNewT, dOneT, dSetSort, dLsZip, dNewCan, oAdd, oSub, oMul, oDiv, oMod, oPow, oLt, oLe, oGt, oGe, oIs, oIsNot, oNeg, oIAdd, D.isN, bLen, bInt, bStr, bAbs, bBool, bList, bTuple, D.ty, D.isInt, D.isBool, D.isStr, D.isTup, D.isLst, List.map_cons, List.map_nil, List.length_cons, List.length_nil, List.replicate_succ, List.replicate_zero, List.cons_append, List.nil_append, Option.isSome_some, if_true, if_false, Bool.false_eq_true, reduceIte, Nat.reduceAdd, Nat.reduceSub, Bool.not_true, Bool.not_false, true_and, and_true]
    refine ⟨h, ns, b, _, ok, rfl, ok_int _, ok_int _, ?_⟩
    have h7 : wa h ns (b + 7) = wr h ns b 7 (wa h ns b) := by
      have := wr_add h ns 0 b 0 7
      rw [Nat.zero_add] at this; exact this
    -- the next place and what waits there
    have fin : ∀ (b' : Nat) (o5 o6 o7 : Option D), b' % 7 = 0 → b < b' → b' ≤ g → wa h ns b' = wr h ns b 7 (wa h ns b) → N [some h.d, some (cal ns), some (.int (g : Int)), some (.int (b' : Int)), some (.int (wr h ns b 7 (wa h ns b))), o5, o6, o7, none] M' := fun b' o5 o6 o7 h1 h2 h3 h4 =>
      hN (g - b') _ _ (by omega) ⟨rfl, b', o5, o6, o7, h1, h3, rfl, by rw [h4]⟩
    dsimp only
    rw [eqv_int]
    have plain : ((2 : Nat) ≤ 100000 ∧ N [some h.d, some (cal ns), some (.int (g : Int)), some (.int ((b : Int) + 7)), some (.int (wr h ns b 7 (wa h ns b))), some (.int (wr h ns b 7 (wa h ns b))), some (.int ((b : Int) + 7)), o7, none] M') :=
      ⟨by decide, by
        have := fin (b + 7) (some (.int (wr h ns b 7 (wa h ns b)))) (some (.int ((b : Int) + 7))) o7 (by omega) (by omega) hlt h7
        rw [show ((b + 7 : Nat) : Int) = (b : Int) + 7 by omega] at this; exact this⟩
    by_cases he : wr h ns b 7 (wa h ns b) = wa h ns b
    · rw [decide_eq_true he]
      simp only [dVar, dC, dOp, dUn, dTst, dAnd, dOr, dNot, dAndV, dOrV, dNotV, dIfE, dNil, dCons, dTup, dLst, dNew, dCall, dB, dChain, dNext, dSeq, dDrop, dRet, dRetN, dIf, dAsg, gN, gSeq, gT, dPar2, dPar3, dAug, dRaise, dFor, dYes, dLc, dels, del, put, nth, startN, dFrz, dIx, dPart, dNoP, dSl, dApp, dPut, dM1, dFmt, dJs, dJoined, dIsi, dRg1, dRg2, dLsI, dTpI, dStI, dZip, dEnL, dLsRg1, dLsRg2, dNewK, dNewT, dOneT, dSetSort, dLsZip, dNewCan, oAdd, oSub, oMul, oDiv, oMod, oPow, oLt, oLe, oGt, oGe, oIs, oIsNot, oNeg, oIAdd, D.isN, bLen, bInt, bStr, bAbs, bBool, bList, bTuple, D.ty, D.isInt, D.isBool, D.isStr, D.isTup, D.isLst, List.map_cons, List.map_nil, List.length_cons, List.length_nil, List.replicate_succ, List.replicate_zero, List.cons_append, List.nil_append, Option.isSome_some, if_true, if_false, Bool.false_eq_true, reduceIte, Nat.reduceAdd, Nat.reduceSub, Bool.not_true, Bool.not_false, true_and, and_true]
      refine ⟨_, rfl, by simp; omega, lc_map (fun d => .bl (decide ((b : Int) ≤ d.iv) && decide (d.iv < (b : Int) + 7))) _ (fun d hd k hk => ?_) ?_⟩
      · obtain ⟨n, _, rfl⟩ := List.mem_map.mp hd
        simp only [dVar, dC, dOp, dUn, dTst, dAnd, dOr, dNot, dAndV, dOrV, dNotV, dIfE, dNil, dCons, dTup, dLst, dNew, dCall, dB, dChain, dNext, dSeq, dDrop, dRet, dRetN, dIf, dAsg, gN, gSeq, gT, dPar2, dPar3, dAug, dRaise, dFor, dYes, dLc, dels, del, put, nth, startN, dFrz, dIx, dPart, dNoP, dSl, dApp, dPut, dM1, dFmt, dJs, dJoined, dIsi, dRg1, dRg2, dLsI, dTpI, dStI, dZip, dEnL, dLsRg1, dLsRg2, dNewK, dNewT, dOneT, dSetSort, dLsZip, dNewCan, oAdd, oSub, oMul, oDiv, oMod, oPow, oLt, oLe, oGt, oGe, oIs, oIsNot, oNeg, oIAdd, D.isN, bLen, bInt, bStr, bAbs, bBool, bList, bTuple, D.ty, D.isInt, D.isBool, D.isStr, D.isTup, D.isLst, List.map_cons, List.map_nil, List.length_cons, List.length_nil, List.replicate_succ, List.replicate_zero, List.cons_append, List.nil_append, Option.isSome_some, if_true, if_false, Bool.false_eq_true, reduceIte, Nat.reduceAdd, Nat.reduceSub, Bool.not_true, Bool.not_false, true_and, and_true]
        have hk' : k (.bl (decide ((b : Int) ≤ n) && decide (n < (b : Int) + 7))) M' := hk
        cases hn : decide ((b : Int) ≤ n) with
        | true => rw [hn] at hk'; simp only [dVar, dC, dOp, dUn, dTst, dAnd, dOr, dNot, dAndV, dOrV, dNotV, dIfE, dNil, dCons, dTup, dLst, dNew, dCall, dB, dChain, dNext, dSeq, dDrop, dRet, dRetN, dIf, dAsg, gN, gSeq, gT, dPar2, dPar3, dAug, dRaise, dFor, dYes, dLc, dels, del, put, nth, startN, dFrz, dIx, dPart, dNoP, dSl, dApp, dPut, dM1, dFmt, dJs, dJoined, dIsi, dRg1, dRg2, dLsI, dTpI, dStI, dZip, dEnL, dLsRg1, dLsRg2, dNewK, dNewT, dOneT, dSetSort, dLsZip, dNewCan, oAdd, oSub, oMul, oDiv, oMod, oPow, oLt, oLe, oGt, oGe, oIs, oIsNot, oNeg, oIAdd, D.isN, bLen, bInt, bStr, bAbs, bBool, bList, bTuple, D.ty, D.isInt, D.isBool, D.isStr, D.isTup, D.isLst, List.map_cons, List.map_nil, List.length_cons, List.length_nil, List.replicate_succ, List.replicate_zero, List.cons_append, List.nil_append, Option.isSome_some, if_true, if_false, Bool.false_eq_true, reduceIte, Nat.reduceAdd, Nat.reduceSub, Bool.not_true, Bool.not_false, true_and, and_true]; exact hk'
        | false => rw [hn] at hk'; simp only [dVar, dC, dOp, dUn, dTst, dAnd, dOr, dNot, dAndV, dOrV, dNotV, dIfE, dNil, dCons, dTup, dLst, dNew, dCall, dB, dChain, dNext, dSeq, dDrop, dRet, dRetN, dIf, dAsg, gN, gSeq, gT, dPar2, dPar3, dAug, dRaise, dFor, dYes, dLc, dels, del, put, nth, startN, dFrz, dIx, dPart, dNoP, dSl, dApp, dPut, dM1, dFmt, dJs, dJoined, dIsi, dRg1, dRg2, dLsI, dTpI, dStI, dZip, dEnL, dLsRg1, dLsRg2, dNewK, dNewT, dOneT, dSetSort, dLsZip, dNewCan, oAdd, oSub, oMul, oDiv, oMod, oPow, oLt, oLe, oGt, oGe, oIs, oIsNot, oNeg, oIAdd, D.isN, bLen, bInt, bStr, bAbs, bBool, bList, bTuple, D.ty, D.isInt, D.isBool, D.isStr, D.isTup, D.isLst, List.map_cons, List.map_nil, List.length_cons, List.length_nil, List.replicate_succ, List.replicate_zero, List.cons_append, List.nil_append, Option.isSome_some, if_true, if_false, Bool.false_eq_true, reduceIte, Nat.reduceAdd, Nat.reduceSub, Bool.not_true, Bool.not_false, true_and, and_true]; exact hk'
      · simp only [bAny]
        refine ⟨(ns.map D.int).map fun d => decide ((b : Int) ≤ d.iv) && decide (d.iv < (b : Int) + 7), by simp only [List.map_map]; rfl, ?_⟩
        cases ha : ((ns.map D.int).map fun d => decide ((b : Int) ≤ d.iv) && decide (d.iv < (b : Int) + 7)).any id with
        | true => simp only [dVar, dC, dOp, dUn, dTst, dAnd, dOr, dNot, dAndV, dOrV, dNotV, dIfE, dNil, dCons, dTup, dLst, dNew, dCall, dB, dChain, dNext, dSeq, dDrop, dRet, dRetN, dIf, dAsg, gN, gSeq, gT, dPar2, dPar3, dAug, dRaise, dFor, dYes, dLc, dels, del, put, nth, startN, dFrz, dIx, dPart, dNoP, dSl, dApp, dPut, dM1, dFmt, dJs, dJoined, dIsi, dRg1, dRg2, dLsI, dTpI, dStI, dZip, dEnL, dLsRg1, dLsRg2, dNewK, dNewT, dOneT, dSetSort, dLsZip, dNewCan, oAdd, oSub, oMul, oDiv, oMod, oPow, oLt, oLe, oGt, oGe, oIs, oIsNot, oNeg, oIAdd, D.isN, bLen, bInt, bStr, bAbs, bBool, bList, bTuple, D.ty, D.isInt, D.isBool, D.isStr, D.isTup, D.isLst, List.map_cons, List.map_nil, List.length_cons, List.length_nil, List.replicate_succ, List.replicate_zero, List.cons_append, List.nil_append, Option.isSome_some, if_true, if_false, Bool.false_eq_true, reduceIte, Nat.reduceAdd, Nat.reduceSub, Bool.not_true, Bool.not_false, true_and, and_true, gSeq]; exact plain
        | false =>
          have free : ∀ n, n ∈ ns → ¬ ((b : Int) ≤ n ∧ n < (b : Int) + 7) := fun n hn ⟨z1, z2⟩ => by
            have := List.any_eq_false.mp ha (decide ((b : Int) ≤ n) && decide (n < (b : Int) + 7)) (List.mem_map.mpr ⟨.int n, List.mem_map.mpr ⟨n, hn, rfl⟩, rfl⟩)
            exact this (by rw [decide_eq_true z1, decide_eq_true z2]; rfl)
          simp only [dVar, dC, dOp, dUn, dTst, dAnd, dOr, dNot, dAndV, dOrV, dNotV, dIfE, dNil, dCons, dTup, dLst, dNew, dCall, dB, dChain, dNext, dSeq, dDrop, dRet, dRetN, dIf, dAsg, gN, gSeq, gT, dPar2, dPar3, dAug, dRaise, dFor, dYes, dLc, dels, del, put, nth, startN, dFrz, dIx, dPart, dNoP, dSl, dApp, dPut, dM1, dFmt, dJs, dJoined, dIsi, dRg1, dRg2, dLsI, dTpI, dStI, dZip, dEnL, dLsRg1, dLsRg2, dNewK, dNewT, dOneT, dSetSort, dLsZip, dNewCan, oAdd, oSub, oMul, oDiv, oMod, oPow, oLt, oLe, oGt, oGe, oIs, oIsNot, oNeg, oIAdd, D.isN, bLen, bInt, bStr, bAbs, bBool, bList, bTuple, D.ty, D.isInt, D.isBool, D.isStr, D.isTup, D.isLst, List.map_cons, List.map_nil, List.length_cons, List.length_nil, List.replicate_succ, List.replicate_zero, List.cons_append, List.nil_append, Option.isSome_some, if_true, if_false, Bool.false_eq_true, reduceIte, Nat.reduceAdd, Nat.reduceSub, Bool.not_true, Bool.not_false, true_and, and_true]
          refine ⟨_, rfl, by simp; omega, lc_pure (fun d => decide ((b : Int) + 7 ≤ d.iv)) (fun d => .int (d.iv - d.iv % 7)) _ _ (fun d hd k1 k2 h1 h2 => ?_) ?_⟩
          · obtain ⟨n, _, rfl⟩ := List.mem_map.mp hd
            have h1' : decide ((b : Int) + 7 ≤ n) = true → k1 (.int (n - n % 7)) M' := h1
            have h2' : decide ((b : Int) + 7 ≤ n) = false → k2 M' := h2
            simp only [dVar, dC, dOp, dUn, dTst, dAnd, dOr, dNot, dAndV, dOrV, dNotV, dIfE, dNil, dCons, dTup, dLst, dNew, dCall, dB, dChain, dNext, dSeq, dDrop, dRet, dRetN, dIf, dAsg, gN, gSeq, gT, dPar2, dPar3, dAug, dRaise, dFor, dYes, dLc, dels, del, put, nth, startN, dFrz, dIx, dPart, dNoP, dSl, dApp, dPut, dM1, dFmt, dJs, dJoined, dIsi, dRg1, dRg2, dLsI, dTpI, dStI, dZip, dEnL, dLsRg1, dLsRg2, dNewK, dNewT, dOneT, dSetSort, dLsZip, dNewCan, oAdd, oSub, oMul, oDiv, oMod, oPow, oLt, oLe, oGt, oGe, oIs, oIsNot, oNeg, oIAdd, D.isN, bLen, bInt, bStr, bAbs, bBool, bList, bTuple, D.ty, D.isInt, D.isBool, D.isStr, D.isTup, D.isLst, List.map_cons, List.map_nil, List.length_cons, List.length_nil, List.replicate_succ, List.replicate_zero, List.cons_append, List.nil_append, Option.isSome_some, if_true, if_false, Bool.false_eq_true, reduceIte, Nat.reduceAdd, Nat.reduceSub, Bool.not_true, Bool.not_false, true_and, and_true]
            cases hn : decide ((b : Int) + 7 ≤ n) with
            | true => simp only [dVar, dC, dOp, dUn, dTst, dAnd, dOr, dNot, dAndV, dOrV, dNotV, dIfE, dNil, dCons, dTup, dLst, dNew, dCall, dB, dChain, dNext, dSeq, dDrop, dRet, dRetN, dIf, dAsg, gN, gSeq, gT, dPar2, dPar3, dAug, dRaise, dFor, dYes, dLc, dels, del, put, nth, startN, dFrz, dIx, dPart, dNoP, dSl, dApp, dPut, dM1, dFmt, dJs, dJoined, dIsi, dRg1, dRg2, dLsI, dTpI, dStI, dZip, dEnL, dLsRg1, dLsRg2, dNewK, dNewT, dOneT, dSetSort, dLsZip, dNewCan, oAdd, oSub, oMul, oDiv, oMod, oPow, oLt, oLe, oGt, oGe, oIs, oIsNot, oNeg, oIAdd, D.isN, bLen, bInt, bStr, bAbs, bBool, bList, bTuple, D.ty, D.isInt, D.isBool, D.isStr, D.isTup, D.isLst, List.map_cons, List.map_nil, List.length_cons, List.length_nil, List.replicate_succ, List.replicate_zero, List.cons_append, List.nil_append, Option.isSome_some, if_true, if_false, Bool.false_eq_true, reduceIte, Nat.reduceAdd, Nat.reduceSub, Bool.not_true, Bool.not_false, true_and, and_true]; exact ⟨by decide, h1' hn⟩
            | false => simp only [dVar, dC, dOp, dUn, dTst, dAnd, dOr, dNot, dAndV, dOrV, dNotV, dIfE, dNil, dCons, dTup, dLst, dNew, dCall, dB, dChain, dNext, dSeq, dDrop, dRet, dRetN, dIf, dAsg, gN, gSeq, gT, dPar2, dPar3, dAug, dRaise, dFor, dYes, dLc, dels, del, put, nth, startN, dFrz, dIx, dPart, dNoP, dSl, dApp, dPut, dM1, dFmt, dJs, dJoined, dIsi, dRg1, dRg2, dLsI, dTpI, dStI, dZip, dEnL, dLsRg1, dLsRg2, dNewK, dNewT, dOneT, dSetSort, dLsZip, dNewCan, oAdd, oSub, oMul, oDiv, oMod, oPow, oLt, oLe, oGt, oGe, oIs, oIsNot, oNeg, oIAdd, D.isN, bLen, bInt, bStr, bAbs, bBool, bList, bTuple, D.ty, D.isInt, D.isBool, D.isStr, D.isTup, D.isLst, List.map_cons, List.map_nil, List.length_cons, List.length_nil, List.replicate_succ, List.replicate_zero, List.cons_append, List.nil_append, Option.isSome_some, if_true, if_false, Bool.false_eq_true, reduceIte, Nat.reduceAdd, Nat.reduceSub, Bool.not_true, Bool.not_false, true_and, and_true]; exact h2' hn
          · have em : ((ns.map D.int).filter fun d => decide ((b : Int) + 7 ≤ d.iv)).map (fun d => D.int (d.iv - d.iv % 7)) = ((ns.filter fun n => decide ((b : Int) + 7 ≤ n)).map fun n => n - n % 7).map D.int := by
              rw [List.filter_map, List.map_map, List.map_map]; rfl
            rw [List.nil_append, em]
            simp only [dVar, dC, dOp, dUn, dTst, dAnd, dOr, dNot, dAndV, dOrV, dNotV, dIfE, dNil, dCons, dTup, dLst, dNew, dCall, dB, dChain, dNext, dSeq, dDrop, dRet, dRetN, dIf, dAsg, gN, gSeq, gT, dPar2, dPar3, dAug, dRaise, dFor, dYes, dLc, dels, del, put, nth, startN, dFrz, dIx, dPart, dNoP, dSl, dApp, dPut, dM1, dFmt, dJs, dJoined, dIsi, dRg1, dRg2, dLsI, dTpI, dStI, dZip, dEnL, dLsRg1, dLsRg2, dNewK, dNewT, dOneT, dSetSort, dLsZip, dNewCan, oAdd, oSub, oMul, oDiv, oMod, oPow, oLt, oLe, oGt, oGe, oIs, oIsNot, oNeg, oIAdd, D.isN, bLen, bInt, bStr, bAbs, bBool, bList, bTuple, D.ty, D.isInt, D.isBool, D.isStr, D.isTup, D.isLst, List.map_cons, List.map_nil, List.length_cons, List.length_nil, List.replicate_succ, List.replicate_zero, List.cons_append, List.nil_append, Option.isSome_some, if_true, if_false, Bool.false_eq_true, reduceIte, Nat.reduceAdd, Nat.reduceSub, Bool.not_true, Bool.not_false, true_and, and_true, gSeq]
            have hl2 : (ns.filter fun n => decide ((b : Int) + 7 ≤ n)).length ≤ 20 := Nat.le_trans (List.length_filter_le _ _) hl
            refine ⟨by decide, by decide, by simp only [List.length_map]; omega, ?_⟩
            simp only [bMin, bMax]
            refine ⟨((ns.filter fun n => decide ((b : Int) + 7 ≤ n)).map fun n => n - n % 7) ++ [(g : Int) - g % 7], by rw [List.map_append]; rfl, by simp, fun mm hm1 hm2 => ?_⟩
            rw [max_if]
            -- mm: the least mark, no later than the goal's week
            have hmg : mm ≤ (g : Int) - g % 7 := hm2 _ (by simp)
            have hm7 : mm % 7 = 0 := by
              rcases List.mem_append.mp hm1 with z | z
              · obtain ⟨n, _, rfl⟩ := List.mem_map.mp z; omega
              · rw [List.mem_singleton.mp z]; omega
            have hmn : ∀ n, n ∈ ns → (b : Int) + 7 ≤ n → mm ≤ n := fun n hn z => by
              have := hm2 (n - n % 7) (List.mem_append_left _ (List.mem_map.mpr ⟨n, List.mem_filter.mpr ⟨hn, decide_eq_true z⟩, rfl⟩))
              omega
            have hnn : 0 ≤ max ((b : Int) + 7) mm := by omega
            obtain ⟨b', eb'⟩ : ∃ b' : Nat, (b' : Int) = max ((b : Int) + 7) mm := ⟨(max ((b : Int) + 7) mm).toNat, by omega⟩
            refine ⟨by decide, ?_⟩
            rw [← eb']
            refine fin b' _ _ _ (by omega) (by omega) (by omega) ?_
            obtain ⟨k, ek⟩ : ∃ k, b' = b + 7 * (k + 1) := ⟨(b' - b) / 7 - 1, by omega⟩
            have := wr_add h ns 0 b 0 (7 * (k + 1))
            rw [Nat.zero_add] at this
            have eb2 : wa h ns b' = wr h ns b (7 * (k + 1)) (wa h ns b) := by rw [ek]; exact this
            rw [eb2, wr_weeks h ns b _ he k fun j hj hin => ?_]
            · exact he.symm
            · by_cases hjb : (b : Int) + 7 ≤ ((b + j : Nat) : Int)
              · have := hmn _ hin hjb; omega
              · exact free _ hin ⟨by omega, by omega⟩
    · rw [decide_eq_false he]
      simp only [dVar, dC, dOp, dUn, dTst, dAnd, dOr, dNot, dAndV, dOrV, dNotV, dIfE, dNil, dCons, dTup, dLst, dNew, dCall, dB, dChain, dNext, dSeq, dDrop, dRet, dRetN, dIf, dAsg, gN, gSeq, gT, dPar2, dPar3, dAug, dRaise, dFor, dYes, dLc, dels, del, put, nth, startN, dFrz, dIx, dPart, dNoP, dSl, dApp, dPut, dM1, dFmt, dJs, dJoined, dIsi, dRg1, dRg2, dLsI, dTpI, dStI, dZip, dEnL, dLsRg1, dLsRg2, dNewK, dNewT, dOneT, dSetSort, dLsZip, dNewCan, oAdd, oSub, oMul, oDiv, oMod, oPow, oLt, oLe, oGt, oGe, oIs, oIsNot, oNeg, oIAdd, D.isN, bLen, bInt, bStr, bAbs, bBool, bList, bTuple, D.ty, D.isInt, D.isBool, D.isStr, D.isTup, D.isLst, List.map_cons, List.map_nil, List.length_cons, List.length_nil, List.replicate_succ, List.replicate_zero, List.cons_append, List.nil_append, Option.isSome_some, if_true, if_false, Bool.false_eq_true, reduceIte, Nat.reduceAdd, Nat.reduceSub, Bool.not_true, Bool.not_false, true_and, and_true, gSeq]
      exact plain
  · rw [decide_eq_false (show ¬ (b : Int) + 7 ≤ g by omega)]
    simp only [dVar, dC, dOp, dUn, dTst, dAnd, dOr, dNot, dAndV, dOrV, dNotV, dIfE, dNil, dCons, dTup, dLst, dNew, dCall, dB, dChain, dNext, dSeq, dDrop, dRet, dRetN, dIf, dAsg, gN, gSeq, gT, dPar2, dPar3, dAug, dRaise, dFor, dYes, dLc, dels, del, put, nth, startN, dFrz, dIx, dPart, dNoP, dSl, dApp, dPut, dM1, dFmt, dJs, dJoined, dIsi, dRg1, dRg2, dLsI, dTpI, dStI, dZip, dEnL, dLsRg1, dLsRg2, dNewK, dNewT, dOneT, dSetSort, dLsZip, dNewCan, oAdd, oSub, oMul, oDiv, oMod, oPow, oLt, oLe, oGt, oGe, oIs, oIsNot, oNeg, oIAdd, D.isN, bLen, bInt, bStr, bAbs, bBool, bList, bTuple, D.ty, D.isInt, D.isBool, D.isStr, D.isTup, D.isLst, List.map_cons, List.map_nil, List.length_cons, List.length_nil, List.replicate_succ, List.replicate_zero, List.cons_append, List.nil_append, Option.isSome_some, if_true, if_false, Bool.false_eq_true, reduceIte, Nat.reduceAdd, Nat.reduceSub, Bool.not_true, Bool.not_false, true_and, and_true]
    refine ⟨_, _, rfl, rfl, ?_⟩
    refine loop_inv (fun i ρ M'' => M'' = M' ∧ ∃ o, ρ = [some h.d, some (cal ns), some (.int (g : Int)), some (.int (b : Int)), some (.int (wr h ns b i (wa h ns b))), o5, o6, o7, o]) _ ⟨rfl, _, rfl⟩ ?_ ?_
    · rintro i d ρ M'' N' hd ⟨rfl, o, rfl⟩ hN'
      have hi : i < ((g : Int) - b).toNat := by
        have := (List.getElem?_eq_some_iff.mp hd).1
        rwa [rgD_length] at this
      rw [rgD_get hi] at hd
      cases hd
      simp only [dVar, dC, dOp, dUn, dTst, dAnd, dOr, dNot, dAndV, dOrV, dNotV, dIfE, dNil, dCons, dTup, dLst, dNew, dCall, dB, dChain, dNext, dSeq, dDrop, dRet, dRetN, dIf, dAsg, gN, gSeq, gT, dPar2, dPar3, dAug, dRaise, dFor, dYes, dLc, dels, del, put, nth, startN, dFrz, dIx, dPart, dNoP, dSl, dApp, dPut, dM1, dFmt, dJs, dJoined, dIsi, dRg1, dRg2, dLsI, dTpI, dStI, dZip, dEnL, dLsRg1, dLsRg2, dNewK, dNewT, dOneT, dSetSort, dLsZip, dNewCan, oAdd, oSub, oMul, oDiv, oMod, oPow, oLt, oLe, oGt, oGe, oIs, oIsNot, oNeg, oIAdd, D.isN, bLen, bInt, bStr, bAbs, bBool, bList, bTuple, D.ty, D.isInt, D.isBool, D.isStr, D.isTup, D.isLst, List.map_cons, List.map_nil, List.length_cons, List.length_nil, List.replicate_succ, List.replicate_zero, List.cons_append, List.nil_append, Option.isSome_some, if_true, if_false, Bool.false_eq_true, reduceIte, Nat.reduceAdd, Nat.reduceSub, Bool.not_true, Bool.not_false, true_and, and_true]
      rw [show (b : Int) + (i : Nat) = ((b + i : Nat) : Int) by omega]
      exact in_cal _ _ _ _ ⟨h, _, _, _, ok, rfl, hN' _ _ ⟨rfl, _, rfl⟩⟩
    · rintro ρ M'' ⟨rfl, o, rfl⟩
      rw [rgD_length]
      simp only [dVar, dC, dOp, dUn, dTst, dAnd, dOr, dNot, dAndV, dOrV, dNotV, dIfE, dNil, dCons, dTup, dLst, dNew, dCall, dB, dChain, dNext, dSeq, dDrop, dRet, dRetN, dIf, dAsg, gN, gSeq, gT, dPar2, dPar3, dAug, dRaise, dFor, dYes, dLc, dels, del, put, nth, startN, dFrz, dIx, dPart, dNoP, dSl, dApp, dPut, dM1, dFmt, dJs, dJoined, dIsi, dRg1, dRg2, dLsI, dTpI, dStI, dZip, dEnL, dLsRg1, dLsRg2, dNewK, dNewT, dOneT, dSetSort, dLsZip, dNewCan, oAdd, oSub, oMul, oDiv, oMod, oPow, oLt, oLe, oGt, oGe, oIs, oIsNot, oNeg, oIAdd, D.isN, bLen, bInt, bStr, bAbs, bBool, bList, bTuple, D.ty, D.isInt, D.isBool, D.isStr, D.isTup, D.isLst, List.map_cons, List.map_nil, List.length_cons, List.length_nil, List.replicate_succ, List.replicate_zero, List.cons_append, List.nil_append, Option.isSome_some, if_true, if_false, Bool.false_eq_true, reduceIte, Nat.reduceAdd, Nat.reduceSub, Bool.not_true, Bool.not_false, true_and, and_true]
      have := wr_add h ns 0 b 0 ((g : Int) - b).toNat
      rw [Nat.zero_add, show b + ((g : Int) - b).toNat = g by omega] at this
      unfold wa at q ⊢
      rw [this] at q
      exact fg_self q
end Dl
namespace Dl
open PySem
/-! # typed houses and calendars are such -/
structure CalOk (ns : List Int) : Prop where
  len : ns.length ≤ 20
  asc : ascI ns = true
  inb : ns.all (fun i => decide (0 ≤ i) && decide (i ≤ great)) = true
theorem fine_int (i : Int) : (D.int i).fine := ⟨rfl, fun z e => by cases e⟩
theorem fine_wk {l : List Nat} (h : l.length ≤ 100000) : (D.str (wk l)).fine := ⟨rfl, fun z e => by cases e; rw [wk_length]; exact h⟩
theorem Hs.Ok.fine2 {h : Hs} (ok : h.Ok) : h.d.fine2 := ⟨⟨rfl, fun z e => by cases e⟩, fun ds e => by
  cases e
  refine ⟨by simp, fun d hd => ?_⟩
  have h1 := ok.aw.len
  have h2 := ok.ar.len
  simp only [List.mem_cons, List.not_mem_nil, or_false] at hd
  rcases hd with rfl | rfl | rfl
  · exact fine_wk (by omega)
  · exact fine_wk (by omega)
  · exact fine_int _⟩
theorem ascB_wk : ∀ {l : List Nat}, l.Pairwise (· < ·) → ascB (l.map fun d => 48 + d) = true
  | [], _ => rfl
  | [a], _ => rfl
  | a :: b :: l, p => by
    obtain ⟨p1, p2⟩ := List.pairwise_cons.mp p
    have h1 := p1 b (List.mem_cons_self ..)
    have h2 := ascB_wk p2
    simp only [List.map_cons, ascB] at h2 ⊢
    rw [h2, decide_eq_true (by omega)]; rfl
theorem wkZ_wk {l : List Nat} (a : Asc l) : wkZ (wk l) = true := by
  have e : (wk l).cps.toList = l.map fun d => 48 + d := by simp [wk]
  unfold wkZ
  rw [e, ascB_wk a.1, Bool.and_true, List.all_eq_true]
  intro c hc
  obtain ⟨d, hd, rfl⟩ := List.mem_map.mp hc
  have := a.2 d hd
  have ef : figs = [48, 49, 50, 51, 52, 53, 54] := by decide
  rw [ef]
  apply decide_eq_true
  simp only [List.mem_cons, List.not_mem_nil, or_false]
  omega
theorem Hs.Ok.houseB {h : Hs} (ok : h.Ok) : h.d.houseB = true := by
  simp only [D.houseB, Hs.d]
  rw [wkZ_wk ok.aw, wkZ_wk ok.ar, wk_length, wk_length]
  have h1 := ok.s1; have h3 := ok.s3
  have w0 := List.length_pos_iff.mpr ok.w0
  have r0 := List.length_pos_iff.mpr ok.r0
  rw [decide_eq_true (by omega), decide_eq_true (by omega), decide_eq_false (by omega), decide_eq_false (by omega)]
  have hf := ok.fit
  rw [decide_eq_true (show (h.work.length : Int) ≤ (h.speed : Int) * (h.run.length : Int) by exact_mod_cast hf)]
  rfl
theorem CalOk.fine2 {ns : List Int} (c : CalOk ns) : (cal ns).fine2 := ⟨⟨rfl, fun z e => by cases e⟩, fun ds e => by
  cases e
  refine ⟨by rw [List.length_map]; have := c.len; omega, fun d hd => ?_⟩
  obtain ⟨n, _, rfl⟩ := List.mem_map.mp hd
  exact fine_int _⟩
theorem CalOk.calB {ns : List Int} (c : CalOk ns) : (cal ns).calB = true := by
  simp only [D.calB, cal, ints_map, List.length_map, c.asc, c.inb, decide_eq_true c.len]; rfl
theorem needH {h : Hs} (ok : h.Ok) {M : Mem} {Q : DQ} {R : Exn → Mem → Prop} (q : Q .non M) : S_need_house [h.d] M Q R := ⟨_, ok.fine2, rfl, fun _ => q, fun e => by rw [ok.houseB] at e; cases e⟩
theorem needC {ns : List Int} (ok : CalOk ns) {M : Mem} {Q : DQ} {R : Exn → Mem → Prop} (q : Q .non M) : S_need_calendar [cal ns] M Q R := ⟨_, ok.fine2, rfl, fun _ => q, fun e => by rw [ok.calB] at e; cases e⟩
theorem inB_ok {i lo hi : Int} (h1 : lo ≤ i) (h2 : i ≤ hi) : (D.int i).inB lo hi = true := by simp only [D.inB, decide_eq_true h1, decide_eq_true h2]; rfl
theorem needD {i : Int} (h1 : 0 ≤ i) (h2 : i ≤ great) {M : Mem} {Q : DQ} {R : Exn → Mem → Prop} (q : Q .non M) : S_need_day [.int i] M Q R := ⟨_, rfl, rfl, fun _ => q, fun e => by rw [inB_ok h1 h2] at e; cases e⟩
theorem needN {i lo hi : Int} (h1 : lo ≤ i) (h2 : i ≤ hi) {M : Mem} {Q : DQ} {R : Exn → Mem → Prop} (q : Q .non M) : S_need_number [.int i, .int lo, .int hi] M Q R := ⟨_, _, _, rfl, rfl, fun _ => q, fun e => by rw [inB_ok h1 h2] at e; cases e⟩
/-! ### round_on, day_of -/
def roundOn (h : Hs) (day : Int) : D := if bo h day > 0 then .int (rb h day) else .non
def S_round_on : DSp := fun ds M Q R => ∃ (h : Hs) (day : Int), h.Ok ∧ 0 ≤ day ∧ day ≤ great ∧ ds = [h.d, .int day] ∧ Q (roundOn h day) M
def t_round_on : DTS := dSeq (dDrop (dCall S_need_house (dCons (dVar 0) (dNil)))) (dSeq (dDrop (dCall S_need_day (dCons (dVar 1) (dNil)))) (dRet (dIfE (dTst (dOp oGt (dCall S_begins_on (dCons (dVar 0) (dCons (dVar 1) (dNil)))) (dC (.int 0)))) (dCall S_rounds_before (dCons (dVar 0) (dCons (dVar 1) (dNil)))) (dC .non))))
theorem kp_round_on : Keeps S_round_on 2 t_round_on := by
  rintro ds M Q R ⟨h, day, ok, h1, h2, rfl, q⟩
  simp only [t_round_on, dVar, dC, dOp, dUn, dTst, dAnd, dOr, dNot, dAndV, dOrV, dNotV, dIfE, dNil, dCons, dTup, dLst, dNew, dCall, dB, dChain, dNext, dSeq, dDrop, dRet, dRetN, dIf, dAsg, gN, gSeq, gT, dPar2, dPar3, dAug, dRaise, dFor, dYes, dLc, dels, del, put, nth, startN, dFrz, dIx, dPart, dNoP, dSl, dApp, dPut, dM1, dFmt, dJs, dJoined, dIsi, dRg1, dRg2, dLsI, dTpI, dStI, dZip, dEnL, dLsRg1, dLsRg2, dNewK, dNewT, dOneT, dSetSort, dLsZip, dNewCan, oAdd, oSub, oMul, oDiv, oMod, oPow, oLt, oLe, oGt, oGe, oIs, oIsNot, oNeg, oIAdd, D.isN, bLen, bInt, bStr, bAbs, bBool, bList, bTuple, D.ty, D.isInt, D.isBool, D.isStr, D.isTup, D.isLst, List.map_cons, List.map_nil, List.length_cons, List.length_nil, List.replicate_succ, List.replicate_zero, List.cons_append, List.nil_append, Option.isSome_some, if_true, if_false, Bool.false_eq_true, reduceIte, Nat.reduceAdd, Nat.reduceSub, Bool.not_true, Bool.not_false, true_and, and_true]
  refine needH ok (needD h1 h2 ⟨h, day, ok, rfl, ?_⟩)
  dsimp only
  unfold roundOn at q
  by_cases hb : bo h day > 0
  · rw [if_pos hb] at q; rw [decide_eq_true (show (0 : Int) < bo h day from hb)]; simp only [dVar, dC, dOp, dUn, dTst, dAnd, dOr, dNot, dAndV, dOrV, dNotV, dIfE, dNil, dCons, dTup, dLst, dNew, dCall, dB, dChain, dNext, dSeq, dDrop, dRet, dRetN, dIf, dAsg, gN, gSeq, gT, dPar2, dPar3, dAug, dRaise, dFor, dYes, dLc, dels, del, put, nth, startN, dFrz, dIx, dPart, dNoP, dSl, dApp, dPut, dM1, dFmt, dJs, dJoined, dIsi, dRg1, dRg2, dLsI, dTpI, dStI, dZip, dEnL, dLsRg1, dLsRg2, dNewK, dNewT, dOneT, dSetSort, dLsZip, dNewCan, oAdd, oSub, oMul, oDiv, oMod, oPow, oLt, oLe, oGt, oGe, oIs, oIsNot, oNeg, oIAdd, D.isN, bLen, bInt, bStr, bAbs, bBool, bList, bTuple, D.ty, D.isInt, D.isBool, D.isStr, D.isTup, D.isLst, List.map_cons, List.map_nil, List.length_cons, List.length_nil, List.replicate_succ, List.replicate_zero, List.cons_append, List.nil_append, Option.isSome_some, if_true, if_false, Bool.false_eq_true, reduceIte, Nat.reduceAdd, Nat.reduceSub, Bool.not_true, Bool.not_false, true_and, and_true]; exact ⟨h, day, ok, rfl, fg_self q⟩
  · rw [if_neg hb] at q; rw [decide_eq_false (show ¬ (0 : Int) < bo h day from hb)]; simp only [dVar, dC, dOp, dUn, dTst, dAnd, dOr, dNot, dAndV, dOrV, dNotV, dIfE, dNil, dCons, dTup, dLst, dNew, dCall, dB, dChain, dNext, dSeq, dDrop, dRet, dRetN, dIf, dAsg, gN, gSeq, gT, dPar2, dPar3, dAug, dRaise, dFor, dYes, dLc, dels, del, put, nth, startN, dFrz, dIx, dPart, dNoP, dSl, dApp, dPut, dM1, dFmt, dJs, dJoined, dIsi, dRg1, dRg2, dLsI, dTpI, dStI, dZip, dEnL, dLsRg1, dLsRg2, dNewK, dNewT, dOneT, dSetSort, dLsZip, dNewCan, oAdd, oSub, oMul, oDiv, oMod, oPow, oLt, oLe, oGt, oGe, oIs, oIsNot, oNeg, oIAdd, D.isN, bLen, bInt, bStr, bAbs, bBool, bList, bTuple, D.ty, D.isInt, D.isBool, D.isStr, D.isTup, D.isLst, List.map_cons, List.map_nil, List.length_cons, List.length_nil, List.replicate_succ, List.replicate_zero, List.cons_append, List.nil_append, Option.isSome_some, if_true, if_false, Bool.false_eq_true, reduceIte, Nat.reduceAdd, Nat.reduceSub, Bool.not_true, Bool.not_false, true_and, and_true]; exact fg_self q
def S_day_of : DSp := fun ds M Q R => ∃ (h : Hs) (n : Int), h.Ok ∧ 0 ≤ n ∧ n ≤ great ∧ ds = [h.d, .int n] ∧ Q (.int (dayBy h n)) M
def t_day_of : DTS := dSeq (dDrop (dCall S_need_house (dCons (dVar 0) (dNil)))) (dSeq (dDrop (dCall S_need_number (dCons (dVar 1) (dCons (dC (.int 0)) (dCons (dC (.int 1000000000000000000000000000000)) (dNil)))))) (dRet (dCall S_day_by (dCons (dVar 0) (dCons (dVar 1) (dNil))))))
theorem kp_day_of : Keeps S_day_of 2 t_day_of := by
  rintro ds M Q R ⟨h, n, ok, h1, h2, rfl, q⟩
  simp only [t_day_of, dVar, dC, dOp, dUn, dTst, dAnd, dOr, dNot, dAndV, dOrV, dNotV, dIfE, dNil, dCons, dTup, dLst, dNew, dCall, dB, dChain, dNext, dSeq, dDrop, dRet, dRetN, dIf, dAsg, gN, gSeq, gT, dPar2, dPar3, dAug, dRaise, dFor, dYes, dLc, dels, del, put, nth, startN, dFrz, dIx, dPart, dNoP, dSl, dApp, dPut, dM1, dFmt, dJs, dJoined, dIsi, dRg1, dRg2, dLsI, dTpI, dStI, dZip, dEnL, dLsRg1, dLsRg2, dNewK, dNewT, dOneT, dSetSort, dLsZip, dNewCan, oAdd, oSub, oMul, oDiv, oMod, oPow, oLt, oLe, oGt, oGe, oIs, oIsNot, oNeg, oIAdd, D.isN, bLen, bInt, bStr, bAbs, bBool, bList, bTuple, D.ty, D.isInt, D.isBool, D.isStr, D.isTup, D.isLst, List.map_cons, List.map_nil, List.length_cons, List.length_nil, List.replicate_succ, List.replicate_zero, List.cons_append, List.nil_append, Option.isSome_some, if_true, if_false, Bool.false_eq_true, reduceIte, Nat.reduceAdd, Nat.reduceSub, Bool.not_true, Bool.not_false, true_and, and_true]
  exact needH ok (needN h1 h2 ⟨h, n, ok, rfl, fg_self q⟩)
/-! ### waiting, done -/
def wat (h : Hs) (ns : List Int) (n : Nat) : Int := wb h n (wa h ns n) (decide ((n : Int) ∈ ns))
def S_waits_at : DSp := fun ds M Q R => ∃ (h : Hs) (ns : List Int) (n : Nat), h.Ok ∧ ns.length ≤ 20 ∧ ds = [h.d, cal ns, .int (n : Int)] ∧ Q (.int (wat h ns n)) M
def t_waits_at : DTS := dRet (dCall S_waits_behind (dCons (dVar 0) (dCons (dVar 2) (dCons (dCall S_waits_ahead (dCons (dVar 0) (dCons (dVar 1) (dCons (dVar 2) (dNil))))) (dCons (dOp (qIn false) (dVar 2) (dVar 1)) (dNil))))))
theorem kp_waits_at : Keeps S_waits_at 3 t_waits_at := by
  rintro ds M Q R ⟨h, ns, n, ok, hl, rfl, q⟩
  simp only [t_waits_at, dVar, dC, dOp, dUn, dTst, dAnd, dOr, dNot, dAndV, dOrV, dNotV, dIfE, dNil, dCons, dTup, dLst, dNew, dCall, dB, dChain, dNext, dSeq, dDrop, dRet, dRetN, dIf, dAsg, gN, gSeq, gT, dPar2, dPar3, dAug, dRaise, dFor, dYes, dLc, dels, del, put, nth, startN, dFrz, dIx, dPart, dNoP, dSl, dApp, dPut, dM1, dFmt, dJs, dJoined, dIsi, dRg1, dRg2, dLsI, dTpI, dStI, dZip, dEnL, dLsRg1, dLsRg2, dNewK, dNewT, dOneT, dSetSort, dLsZip, dNewCan, oAdd, oSub, oMul, oDiv, oMod, oPow, oLt, oLe, oGt, oGe, oIs, oIsNot, oNeg, oIAdd, D.isN, bLen, bInt, bStr, bAbs, bBool, bList, bTuple, D.ty, D.isInt, D.isBool, D.isStr, D.isTup, D.isLst, List.map_cons, List.map_nil, List.length_cons, List.length_nil, List.replicate_succ, List.replicate_zero, List.cons_append, List.nil_append, Option.isSome_some, if_true, if_false, Bool.false_eq_true, reduceIte, Nat.reduceAdd, Nat.reduceSub, Bool.not_true, Bool.not_false, true_and, and_true]
  exact ⟨h, ns, n, ok, hl, rfl, in_cal _ _ _ _ ⟨h, _, _, _, ok, rfl, fg_self q⟩⟩
def dby (h : Hs) (ns : List Int) (n : Nat) : Int := rb h ((n : Int) + 1) - wat h ns n
def S_done_by : DSp := fun ds M Q R => ∃ (h : Hs) (ns : List Int) (n : Nat), h.Ok ∧ ns.length ≤ 20 ∧ ds = [h.d, cal ns, .int (n : Int)] ∧ Q (.int (dby h ns n)) M
def t_done_by : DTS := dRet (dOp oSub (dCall S_rounds_before (dCons (dVar 0) (dCons (dOp oAdd (dVar 2) (dC (.int 1))) (dNil)))) (dCall S_waits_at (dCons (dVar 0) (dCons (dVar 1) (dCons (dVar 2) (dNil))))))
theorem kp_done_by : Keeps S_done_by 3 t_done_by := by
  rintro ds M Q R ⟨h, ns, n, ok, hl, rfl, q⟩
  simp only [t_done_by, dVar, dC, dOp, dUn, dTst, dAnd, dOr, dNot, dAndV, dOrV, dNotV, dIfE, dNil, dCons, dTup, dLst, dNew, dCall, dB, dChain, dNext, dSeq, dDrop, dRet, dRetN, dIf, dAsg, gN, gSeq, gT, dPar2, dPar3, dAug, dRaise, dFor, dYes, dLc, dels, del, put, nth, startN, dFrz, dIx, dPart, dNoP, dSl, dApp, dPut, dM1, dFmt, dJs, dJoined, dIsi, dRg1, dRg2, dLsI, dTpI, dStI, dZip, dEnL, dLsRg1, dLsRg2, dNewK, dNewT, dOneT, dSetSort, dLsZip, dNewCan, oAdd, oSub, oMul, oDiv, oMod, oPow, oLt, oLe, oGt, oGe, oIs, oIsNot, oNeg, oIAdd, D.isN, bLen, bInt, bStr, bAbs, bBool, bList, bTuple, D.ty, D.isInt, D.isBool, D.isStr, D.isTup, D.isLst, List.map_cons, List.map_nil, List.length_cons, List.length_nil, List.replicate_succ, List.replicate_zero, List.cons_append, List.nil_append, Option.isSome_some, if_true, if_false, Bool.false_eq_true, reduceIte, Nat.reduceAdd, Nat.reduceSub, Bool.not_true, Bool.not_false, true_and, and_true]
  exact ⟨h, _, ok, rfl, h, ns, n, ok, hl, rfl, fg_self q⟩
/-- what can be done in k days from a on -/
def dsum (h : Hs) (ns : List Int) (a : Nat) : Nat → Int
  | 0 => 0
  | k + 1 => dsum h ns a k + mdn h ((a + k : Nat) : Int) (decide (((a + k : Nat) : Int) ∈ ns))
structure DoneAt (h : Hs) (ns : List Int) (a k : Nat) : Prop where
  at_ : wa h ns a < dsum h ns a (k + 1)
  no : ∀ j, j < k → dsum h ns a (j + 1) ≤ wa h ns a
theorem dayBy_nn {h : Hs} {n : Int} (ok : h.Ok) (hn : 0 ≤ n) : 0 ≤ dayBy h n := by
  unfold dayBy
  have := Int.ediv_nonneg hn (show (0 : Int) ≤ h.work.length by omega)
  omega
def S_done_on_by : DSp := fun ds M Q R => ∃ (h : Hs) (ns : List Int) (n a k : Nat), h.Ok ∧ ns.length ≤ 20 ∧ ds = [h.d, cal ns, .int (n : Int)] ∧ dayBy h n = a ∧ DoneAt h ns a k ∧ Q (.int ((a + k : Nat) : Int)) M
def t_done_on_by : DTS := dSeq (dAsg (dCall S_day_by (dCons (dVar 0) (dCons (dVar 2) (dNil)))) (gN 3)) (dSeq (dAsg (dOp oSub (dCall S_waits_ahead (dCons (dVar 0) (dCons (dVar 1) (dCons (dVar 3) (dNil))))) (dCall S_most_done (dCons (dVar 0) (dCons (dVar 3) (dCons (dOp (qIn false) (dVar 3) (dVar 1)) (dNil)))))) (gN 4)) (dSeq (dWhile (dTst (dOp oGe (dVar 4) (dC (.int 0)))) (dSeq (dAug 3 oIAdd (dC (.int 1))) (dAug 4 oSub (dCall S_most_done (dCons (dVar 0) (dCons (dVar 3) (dCons (dOp (qIn false) (dVar 3) (dVar 1)) (dNil)))))))) (dRet (dVar 3))))
theorem kp_done_on_by : Keeps S_done_on_by 5 t_done_on_by := by
  rintro ds M Q R ⟨h, ns, n, a, k, ok, hl, rfl, ha, hd, q⟩
  simp only [t_done_on_by, dVar, dC, dOp, dUn, dTst, dAnd, dOr, dNot, dAndV, dOrV, dNotV, dIfE, dNil, dCons, dTup, dLst, dNew, dCall, dB, dChain, dNext, dSeq, dDrop, dRet, dRetN, dIf, dAsg, gN, gSeq, gT, dPar2, dPar3, dAug, dRaise, dFor, dYes, dLc, dels, del, put, nth, startN, dFrz, dIx, dPart, dNoP, dSl, dApp, dPut, dM1, dFmt, dJs, dJoined, dIsi, dRg1, dRg2, dLsI, dTpI, dStI, dZip, dEnL, dLsRg1, dLsRg2, dNewK, dNewT, dOneT, dSetSort, dLsZip, dNewCan, oAdd, oSub, oMul, oDiv, oMod, oPow, oLt, oLe, oGt, oGe, oIs, oIsNot, oNeg, oIAdd, D.isN, bLen, bInt, bStr, bAbs, bBool, bList, bTuple, D.ty, D.isInt, D.isBool, D.isStr, D.isTup, D.isLst, List.map_cons, List.map_nil, List.length_cons, List.length_nil, List.replicate_succ, List.replicate_zero, List.cons_append, List.nil_append, Option.isSome_some, if_true, if_false, Bool.false_eq_true, reduceIte, Nat.reduceAdd, Nat.reduceSub, Bool.not_true, Bool.not_false, true_and, and_true]
  refine ⟨h, _, ok, rfl, ?_⟩
  rw [ha]
  refine ⟨h, ns, a, ok, hl, rfl, in_cal _ _ _ _ ⟨h, _, _, ok, rfl, ?_⟩⟩
  have e1 : dsum h ns a 1 = mdn h (a : Int) (decide ((a : Int) ∈ ns)) := by show 0 + _ = _; rw [Int.zero_add]; rfl
  refine while_inv (fun m ρ M' => M' = M ∧ ∃ j, j ≤ k ∧ m = k - j ∧ ρ = [some h.d, some (cal ns), some (.int (n : Int)), some (.int ((a + j : Nat) : Int)), some (.int (wa h ns a - dsum h ns a (j + 1)))]) (m := k) ⟨rfl, 0, Nat.zero_le _, rfl, by rw [e1]; rfl⟩ ?_
  rintro m ρ M' N ⟨rfl, j, hj, rfl, rfl⟩ hN
  simp only [dVar, dC, dOp, dUn, dTst, dAnd, dOr, dNot, dAndV, dOrV, dNotV, dIfE, dNil, dCons, dTup, dLst, dNew, dCall, dB, dChain, dNext, dSeq, dDrop, dRet, dRetN, dIf, dAsg, gN, gSeq, gT, dPar2, dPar3, dAug, dRaise, dFor, dYes, dLc, dels, del, put, nth, startN, dFrz, dIx, dPart, dNoP, dSl, dApp, dPut, dM1, dFmt, dJs, dJoined, dIsi, dRg1, dRg2, dLsI, dTpI, dStI, dZip, dEnL, dLsRg1, dLsRg2, dNewK, dNewT, dOneT, dSetSort, dLsZip, dNewCan, oAdd, oSub, oMul, oDiv, oMod, oPow, oLt, oLe, oGt, oGe, oIs, oIsNot, oNeg, oIAdd, D.isN, bLen, bInt, bStr, bAbs, bBool, bList, bTuple, D.ty, D.isInt, D.isBool, D.isStr, D.isTup, D.isLst, List.map_cons, List.map_nil, List.length_cons, List.length_nil, List.replicate_succ, List.replicate_zero, List.cons_append, List.nil_append, Option.isSome_some, if_true, if_false, Bool.false_eq_true, reduceIte, Nat.reduceAdd, Nat.reduceSub, Bool.not_true, Bool.not_false, true_and, and_true]
  by_cases hjk : j = k
  · subst hjk
    have := hd.at_
    rw [decide_eq_false (by omega)]
    simp only [dVar, dC, dOp, dUn, dTst, dAnd, dOr, dNot, dAndV, dOrV, dNotV, dIfE, dNil, dCons, dTup, dLst, dNew, dCall, dB, dChain, dNext, dSeq, dDrop, dRet, dRetN, dIf, dAsg, gN, gSeq, gT, dPar2, dPar3, dAug, dRaise, dFor, dYes, dLc, dels, del, put, nth, startN, dFrz, dIx, dPart, dNoP, dSl, dApp, dPut, dM1, dFmt, dJs, dJoined, dIsi, dRg1, dRg2, dLsI, dTpI, dStI, dZip, dEnL, dLsRg1, dLsRg2, dNewK, dNewT, dOneT, dSetSort, dLsZip, dNewCan, oAdd, oSub, oMul, oDiv, oMod, oPow, oLt, oLe, oGt, oGe, oIs, oIsNot, oNeg, oIAdd, D.isN, bLen, bInt, bStr, bAbs, bBool, bList, bTuple, D.ty, D.isInt, D.isBool, D.isStr, D.isTup, D.isLst, List.map_cons, List.map_nil, List.length_cons, List.length_nil, List.replicate_succ, List.replicate_zero, List.cons_append, List.nil_append, Option.isSome_some, if_true, if_false, Bool.false_eq_true, reduceIte, Nat.reduceAdd, Nat.reduceSub, Bool.not_true, Bool.not_false, true_and, and_true]
    exact fg_self q
  · have := hd.no j (by omega)
    rw [decide_eq_true (by omega)]
    simp only [dVar, dC, dOp, dUn, dTst, dAnd, dOr, dNot, dAndV, dOrV, dNotV, dIfE, dNil, dCons, dTup, dLst, dNew, dCall, dB, dChain, dNext, dSeq, dDrop, dRet, dRetN, dIf, dAsg, gN, gSeq, gT, dPar2, dPar3, dAug, dRaise, dFor, dYes, dLc, dels, del, put, nth, startN, dFrz, dIx, dPart, dNoP, dSl, dApp, dPut, dM1, dFmt, dJs, dJoined, dIsi, dRg1, dRg2, dLsI, dTpI, dStI, dZip, dEnL, dLsRg1, dLsRg2, dNewK, dNewT, dOneT, dSetSort, dLsZip, dNewCan, oAdd, oSub, oMul, oDiv, oMod, oPow, oLt, oLe, oGt, oGe, oIs, oIsNot, oNeg, oIAdd, D.isN, bLen, bInt, bStr, bAbs, bBool, bList, bTuple, D.ty, D.isInt, D.isBool, D.isStr, D.isTup, D.isLst, List.map_cons, List.map_nil, List.length_cons, List.length_nil, List.replicate_succ, List.replicate_zero, List.cons_append, List.nil_append, Option.isSome_some, if_true, if_false, Bool.false_eq_true, reduceIte, Nat.reduceAdd, Nat.reduceSub, Bool.not_true, Bool.not_false, true_and, and_true]
    rw [show ((a + j : Nat) : Int) + 1 = ((a + (j + 1) : Nat) : Int) by omega]
    refine in_cal _ _ _ _ ⟨h, _, _, ok, rfl, ?_⟩
    refine hN (k - (j + 1)) _ _ (by omega) ⟨rfl, j + 1, by omega, rfl, ?_⟩
    rw [show wa h ns a - dsum h ns a (j + 1 + 1) = wa h ns a - dsum h ns a (j + 1) - mdn h ((a + (j + 1) : Nat) : Int) (decide (((a + (j + 1) : Nat) : Int) ∈ ns)) by rw [show dsum h ns a (j + 1 + 1) = dsum h ns a (j + 1) + mdn h ((a + (j + 1) : Nat) : Int) (decide (((a + (j + 1) : Nat) : Int) ∈ ns)) from rfl]; omega]
def S_done_on : DSp := fun ds M Q R => ∃ (h : Hs) (ns : List Int) (n a k : Nat), h.Ok ∧ CalOk ns ∧ (n : Int) ≤ great ∧ ds = [h.d, cal ns, .int (n : Int)] ∧ dayBy h n = a ∧ DoneAt h ns a k ∧ Q (.int ((a + k : Nat) : Int)) M
def t_done_on : DTS := dSeq (dDrop (dCall S_need_house (dCons (dVar 0) (dNil)))) (dSeq (dDrop (dCall S_need_calendar (dCons (dVar 1) (dNil)))) (dSeq (dDrop (dCall S_need_number (dCons (dVar 2) (dCons (dC (.int 0)) (dCons (dC (.int 1000000000000000000000000000000)) (dNil)))))) (dRet (dCall S_done_on_by (dCons (dVar 0) (dCons (dVar 1) (dCons (dVar 2) (dNil))))))))
theorem kp_done_on : Keeps S_done_on 3 t_done_on := by
  rintro ds M Q R ⟨h, ns, n, a, k, ok, hc, hn, rfl, ha, hd, q⟩
  simp only [t_done_on, dVar, dC, dOp, dUn, dTst, dAnd, dOr, dNot, dAndV, dOrV, dNotV, dIfE, dNil, dCons, dTup, dLst, dNew, dCall, dB, dChain, dNext, dSeq, dDrop, dRet, dRetN, dIf, dAsg, gN, gSeq, gT, dPar2, dPar3, dAug, dRaise, dFor, dYes, dLc, dels, del, put, nth, startN, dFrz, dIx, dPart, dNoP, dSl, dApp, dPut, dM1, dFmt, dJs, dJoined, dIsi, dRg1, dRg2, dLsI, dTpI, dStI, dZip, dEnL, dLsRg1, dLsRg2, dNewK, dNewT, dOneT, dSetSort, dLsZip, dNewCan, oAdd, oSub, oMul, oDiv, oMod, oPow, oLt, oLe, oGt, oGe, oIs, oIsNot, oNeg, oIAdd, D.isN, bLen, bInt, bStr, bAbs, bBool, bList, bTuple, D.ty, D.isInt, D.isBool, D.isStr, D.isTup, D.isLst, List.map_cons, List.map_nil, List.length_cons, List.length_nil, List.replicate_succ, List.replicate_zero, List.cons_append, List.nil_append, Option.isSome_some, if_true, if_false, Bool.false_eq_true, reduceIte, Nat.reduceAdd, Nat.reduceSub, Bool.not_true, Bool.not_false, true_and, and_true]
  exact needH ok (needC hc (needN (by omega) hn ⟨h, ns, n, a, k, ok, hc.len, rfl, ha, hd, fg_self q⟩))
def S_done_upto : DSp := fun ds M Q R => ∃ (h : Hs) (ns : List Int) (n : Nat), h.Ok ∧ CalOk ns ∧ (n : Int) ≤ great ∧ ds = [h.d, cal ns, .int (n : Int)] ∧ Q (.int (dby h ns n)) M
def t_done_upto : DTS := dSeq (dDrop (dCall S_need_house (dCons (dVar 0) (dNil)))) (dSeq (dDrop (dCall S_need_calendar (dCons (dVar 1) (dNil)))) (dSeq (dDrop (dCall S_need_day (dCons (dVar 2) (dNil)))) (dRet (dCall S_done_by (dCons (dVar 0) (dCons (dVar 1) (dCons (dVar 2) (dNil))))))))
theorem kp_done_upto : Keeps S_done_upto 3 t_done_upto := by
  rintro ds M Q R ⟨h, ns, n, ok, hc, hn, rfl, q⟩
  simp only [t_done_upto, dVar, dC, dOp, dUn, dTst, dAnd, dOr, dNot, dAndV, dOrV, dNotV, dIfE, dNil, dCons, dTup, dLst, dNew, dCall, dB, dChain, dNext, dSeq, dDrop, dRet, dRetN, dIf, dAsg, gN, gSeq, gT, dPar2, dPar3, dAug, dRaise, dFor, dYes, dLc, dels, del, put, nth, startN, dFrz, dIx, dPart, dNoP, dSl, dApp, dPut, dM1, dFmt, dJs, dJoined, dIsi, dRg1, dRg2, dLsI, dTpI, dStI, dZip, dEnL, dLsRg1, dLsRg2, dNewK, dNewT, dOneT, dSetSort, dLsZip, dNewCan, oAdd, oSub, oMul, oDiv, oMod, oPow, oLt, oLe, oGt, oGe, oIs, oIsNot, oNeg, oIAdd, D.isN, bLen, bInt, bStr, bAbs, bBool, bList, bTuple, D.ty, D.isInt, D.isBool, D.isStr, D.isTup, D.isLst, List.map_cons, List.map_nil, List.length_cons, List.length_nil, List.replicate_succ, List.replicate_zero, List.cons_append, List.nil_append, Option.isSome_some, if_true, if_false, Bool.false_eq_true, reduceIte, Nat.reduceAdd, Nat.reduceSub, Bool.not_true, Bool.not_false, true_and, and_true]
  exact needH ok (needC hc (needD (by omega) hn ⟨h, ns, n, ok, hc.len, rfl, fg_self q⟩))
def S_waiting : DSp := fun ds M Q R => ∃ (h : Hs) (ns : List Int) (n : Nat), h.Ok ∧ CalOk ns ∧ (n : Int) ≤ great ∧ ds = [h.d, cal ns, .int (n : Int)] ∧ Q (.int (wat h ns n)) M
def t_waiting : DTS := dSeq (dDrop (dCall S_need_house (dCons (dVar 0) (dNil)))) (dSeq (dDrop (dCall S_need_calendar (dCons (dVar 1) (dNil)))) (dSeq (dDrop (dCall S_need_day (dCons (dVar 2) (dNil)))) (dRet (dCall S_waits_at (dCons (dVar 0) (dCons (dVar 1) (dCons (dVar 2) (dNil))))))))
theorem kp_waiting : Keeps S_waiting 3 t_waiting := by
  rintro ds M Q R ⟨h, ns, n, ok, hc, hn, rfl, q⟩
  simp only [t_waiting, dVar, dC, dOp, dUn, dTst, dAnd, dOr, dNot, dAndV, dOrV, dNotV, dIfE, dNil, dCons, dTup, dLst, dNew, dCall, dB, dChain, dNext, dSeq, dDrop, dRet, dRetN, dIf, dAsg, gN, gSeq, gT, dPar2, dPar3, dAug, dRaise, dFor, dYes, dLc, dels, del, put, nth, startN, dFrz, dIx, dPart, dNoP, dSl, dApp, dPut, dM1, dFmt, dJs, dJoined, dIsi, dRg1, dRg2, dLsI, dTpI, dStI, dZip, dEnL, dLsRg1, dLsRg2, dNewK, dNewT, dOneT, dSetSort, dLsZip, dNewCan, oAdd, oSub, oMul, oDiv, oMod, oPow, oLt, oLe, oGt, oGe, oIs, oIsNot, oNeg, oIAdd, D.isN, bLen, bInt, bStr, bAbs, bBool, bList, bTuple, D.ty, D.isInt, D.isBool, D.isStr, D.isTup, D.isLst, List.map_cons, List.map_nil, List.length_cons, List.length_nil, List.replicate_succ, List.replicate_zero, List.cons_append, List.nil_append, Option.isSome_some, if_true, if_false, Bool.false_eq_true, reduceIte, Nat.reduceAdd, Nat.reduceSub, Bool.not_true, Bool.not_false, true_and, and_true]
  exact needH ok (needC hc (needD (by omega) hn ⟨h, ns, n, ok, hc.len, rfl, fg_self q⟩))
def doneAt (h : Hs) (ns : List Int) (n : Nat) : D := .lst (rgD (rb h n - wa h ns n) (dby h ns n - (rb h n - wa h ns n)).toNat)
def S_done_at : DSp := fun ds M Q R => ∃ (h : Hs) (ns : List Int) (n : Nat), h.Ok ∧ CalOk ns ∧ (n : Int) ≤ great ∧ (dby h ns n - (rb h n - wa h ns n)).toNat ≤ 100000 ∧ ds = [h.d, cal ns, .int (n : Int)] ∧ Q (doneAt h ns n) M
def t_done_at : DTS := dSeq (dDrop (dCall S_need_house (dCons (dVar 0) (dNil)))) (dSeq (dDrop (dCall S_need_calendar (dCons (dVar 1) (dNil)))) (dSeq (dDrop (dCall S_need_day (dCons (dVar 2) (dNil)))) (dSeq (dAsg (dOp oSub (dCall S_rounds_before (dCons (dVar 0) (dCons (dVar 2) (dNil)))) (dCall S_waits_ahead (dCons (dVar 0) (dCons (dVar 1) (dCons (dVar 2) (dNil)))))) (gN 3)) (dRet (dLsRg2 (dVar 3) (dCall S_done_by (dCons (dVar 0) (dCons (dVar 1) (dCons (dVar 2) (dNil))))))))))
theorem kp_done_at : Keeps S_done_at 4 t_done_at := by
  rintro ds M Q R ⟨h, ns, n, ok, hc, hn, hs, rfl, q⟩
  simp only [t_done_at, dVar, dC, dOp, dUn, dTst, dAnd, dOr, dNot, dAndV, dOrV, dNotV, dIfE, dNil, dCons, dTup, dLst, dNew, dCall, dB, dChain, dNext, dSeq, dDrop, dRet, dRetN, dIf, dAsg, gN, gSeq, gT, dPar2, dPar3, dAug, dRaise, dFor, dYes, dLc, dels, del, put, nth, startN, dFrz, dIx, dPart, dNoP, dSl, dApp, dPut, dM1, dFmt, dJs, dJoined, dIsi, dRg1, dRg2, dLsI, dTpI, dStI, dZip, dEnL, dLsRg1, dLsRg2, dNewK, dNewT, dOneT, dSetSort, dLsZip, dNewCan, oAdd, oSub, oMul, oDiv, oMod, oPow, oLt, oLe, oGt, oGe, oIs, oIsNot, oNeg, oIAdd, D.isN, bLen, bInt, bStr, bAbs, bBool, bList, bTuple, D.ty, D.isInt, D.isBool, D.isStr, D.isTup, D.isLst, List.map_cons, List.map_nil, List.length_cons, List.length_nil, List.replicate_succ, List.replicate_zero, List.cons_append, List.nil_append, Option.isSome_some, if_true, if_false, Bool.false_eq_true, reduceIte, Nat.reduceAdd, Nat.reduceSub, Bool.not_true, Bool.not_false, true_and, and_true]
  refine needH ok (needC hc (needD (by omega) hn ⟨h, _, ok, rfl, h, ns, n, ok, hc.len, rfl, h, ns, n, ok, hc.len, rfl, ?_⟩))
  exact ⟨_, _, rfl, rfl, hs, fg_self q⟩
end Dl
namespace Dl
open PySem
/-! # the laws' draws -/
theorem mget_self {p : Nat} {o : MO} {M : Mem} : mget ((p, o) :: M) p = some o := mget_cons_self p o M
def S_law_lift : DSp := fun ds M Q R => ∃ (p : Nat) (w : Int), 0 < w ∧ w ≤ great ∧ mget M p = some .can ∧ ds = [.obj p, .int w] ∧ ∀ r, 0 ≤ r → r < w → Q (.int r) M
def t_law_lift : DTS := dSeq (dIf (dTst (dOp oGt (dOp dIx (dVar 0) (dC (.int 0))) (dC (.int 0)))) (dSeq (dAsg (dOp oMod (dB bInt (dCons (dOp dIx (dVar 0) (dC (.int 0))) (dNil))) (dVar 1)) (gN 2)) (dSeq (dPut (dVar 0) (dC (.int 0)) (dOp oDiv (dOp dIx (dVar 0) (dC (.int 0))) (dVar 1))) (dRet (dVar 2)))) (dNext)) (dSeq (dPut (dVar 0) (dC (.int 1)) (dOp oMod (dB bInt (dCons (dOp oAdd (dOp oMul (dOp dIx (dVar 0) (dC (.int 1))) (dC (.int 37993))) (dC (.int 307))) (dNil))) (dC (.int 2147483237)))) (dSeq (dAsg (dOp oMod (dB bInt (dCons (dOp oMul (dOp dIx (dVar 0) (dC (.int 1))) (dOp oAdd (dOp oDiv (dOp dIx (dVar 0) (dC (.int 1))) (dC (.int 9))) (dC (.int 67)))) (dNil))) (dC (.int 2147483179))) (gN 3)) (dRet (dOp oMod (dB bInt (dCons (dOp oDiv (dVar 3) (dC (.int 32))) (dNil))) (dVar 1)))))
theorem kp_law_lift : Keeps S_law_lift 4 t_law_lift := by
  rintro ds M Q R ⟨p, w, h0, h1, hm, rfl, q⟩
  simp only [t_law_lift, dVar, dC, dOp, dUn, dTst, dAnd, dOr, dNot, dAndV, dOrV, dNotV, dIfE, dNil, dCons, dTup, dLst, dNew, dCall, dB, dChain, dNext, dSeq, dDrop, dRet, dRetN, dIf, dAsg, gN, gSeq, gT, dPar2, dPar3, dAug, dRaise, dFor, dYes, dLc, dels, del, put, nth, startN, dFrz, dIx, dPart, dNoP, dSl, dApp, dPut, dM1, dFmt, dJs, dJoined, dIsi, dRg1, dRg2, dLsI, dTpI, dStI, dZip, dEnL, dLsRg1, dLsRg2, dNewK, dNewT, dOneT, dSetSort, dLsZip, dNewCan, oAdd, oSub, oMul, oDiv, oMod, oPow, oLt, oLe, oGt, oGe, oIs, oIsNot, oNeg, oIAdd, D.isN, bLen, bInt, bStr, bAbs, bBool, bList, bTuple, D.ty, D.isInt, D.isBool, D.isStr, D.isTup, D.isLst, List.map_cons, List.map_nil, List.length_cons, List.length_nil, List.replicate_succ, List.replicate_zero, List.cons_append, List.nil_append, Option.isSome_some, if_true, if_false, Bool.false_eq_true, reduceIte, Nat.reduceAdd, Nat.reduceSub, Bool.not_true, Bool.not_false, true_and, and_true, hm]
  refine .inl fun a ha => ?_
  by_cases hp : 0 < a
  · rw [decide_eq_true hp]
    simp only [dVar, dC, dOp, dUn, dTst, dAnd, dOr, dNot, dAndV, dOrV, dNotV, dIfE, dNil, dCons, dTup, dLst, dNew, dCall, dB, dChain, dNext, dSeq, dDrop, dRet, dRetN, dIf, dAsg, gN, gSeq, gT, dPar2, dPar3, dAug, dRaise, dFor, dYes, dLc, dels, del, put, nth, startN, dFrz, dIx, dPart, dNoP, dSl, dApp, dPut, dM1, dFmt, dJs, dJoined, dIsi, dRg1, dRg2, dLsI, dTpI, dStI, dZip, dEnL, dLsRg1, dLsRg2, dNewK, dNewT, dOneT, dSetSort, dLsZip, dNewCan, oAdd, oSub, oMul, oDiv, oMod, oPow, oLt, oLe, oGt, oGe, oIs, oIsNot, oNeg, oIAdd, D.isN, bLen, bInt, bStr, bAbs, bBool, bList, bTuple, D.ty, D.isInt, D.isBool, D.isStr, D.isTup, D.isLst, List.map_cons, List.map_nil, List.length_cons, List.length_nil, List.replicate_succ, List.replicate_zero, List.cons_append, List.nil_append, Option.isSome_some, if_true, if_false, Bool.false_eq_true, reduceIte, Nat.reduceAdd, Nat.reduceSub, Bool.not_true, Bool.not_false, true_and, and_true, hm, bInt]
    refine .inl fun a2 ha2 => ?_
    refine ⟨h0, .inl fun a3 ha3 => ⟨⟨h0, ?_⟩, ?_⟩⟩
    · exact Int.lt_of_le_of_lt h1 (by decide)
    · simp only [qPut, hm]
      refine ⟨_, rfl, Int.ediv_nonneg ha3 (by omega), .inl trivial, fg_self (q _ (Int.emod_nonneg _ (by omega)) (Int.emod_lt_of_pos _ h0))⟩
  · rw [decide_eq_false hp]
    simp only [dVar, dC, dOp, dUn, dTst, dAnd, dOr, dNot, dAndV, dOrV, dNotV, dIfE, dNil, dCons, dTup, dLst, dNew, dCall, dB, dChain, dNext, dSeq, dDrop, dRet, dRetN, dIf, dAsg, gN, gSeq, gT, dPar2, dPar3, dAug, dRaise, dFor, dYes, dLc, dels, del, put, nth, startN, dFrz, dIx, dPart, dNoP, dSl, dApp, dPut, dM1, dFmt, dJs, dJoined, dIsi, dRg1, dRg2, dLsI, dTpI, dStI, dZip, dEnL, dLsRg1, dLsRg2, dNewK, dNewT, dOneT, dSetSort, dLsZip, dNewCan, oAdd, oSub, oMul, oDiv, oMod, oPow, oLt, oLe, oGt, oGe, oIs, oIsNot, oNeg, oIAdd, D.isN, bLen, bInt, bStr, bAbs, bBool, bList, bTuple, D.ty, D.isInt, D.isBool, D.isStr, D.isTup, D.isLst, List.map_cons, List.map_nil, List.length_cons, List.length_nil, List.replicate_succ, List.replicate_zero, List.cons_append, List.nil_append, Option.isSome_some, if_true, if_false, Bool.false_eq_true, reduceIte, Nat.reduceAdd, Nat.reduceSub, Bool.not_true, Bool.not_false, true_and, and_true, hm]
    refine .inr fun b hb hb2 => ?_
    refine ⟨.inl (by unfold small64; omega), by decide, ?_⟩
    simp only [qPut, hm]
    refine ⟨_, rfl, by omega, .inr ⟨trivial, by omega⟩, ?_⟩
    refine .inr fun b2 hb hb2 => .inr fun b3 hb3 hb4 => ?_
    refine ⟨⟨by decide, by decide⟩, .inl (by unfold small64; omega), by decide, ⟨by decide, by decide⟩, h0, fg_self (q _ (Int.emod_nonneg _ (by omega)) (Int.emod_lt_of_pos _ h0))⟩
def S_law_can : DSp := fun ds M Q R => ∃ (ns : List Int) (k : Nat), k ≤ 1000 ∧ ds = [.scr ns, .int (k : Int)] ∧ ∀ p, p ∉ keys M → Q (.obj p) ((p, .can) :: M)
def t_law_can : DTS := dSeq (dAsg (dIfE (dTst (dOp oLt (dVar 1) (dB bLen (dCons (dVar 0) (dNil))))) (dB bAbs (dCons (dB bInt (dCons (dOp dIx (dVar 0) (dVar 1)) (dNil))) (dNil))) (dOp oAdd (dOp oMul (dC (.int 1103)) (dVar 1)) (dC (.int 163)))) (gN 2)) (dRet (dNewCan (dCons (dIfE (dTst (dOp oGe (dVar 2) (dOp oPow (dC (.int 10)) (dC (.int 18))))) (dVar 2) (dC (.int 0))) (dCons (dOp oAdd (dOp oMod (dB bInt (dCons (dOp oAdd (dOp oAdd (dOp oMul (dVar 2) (dC (.int 97))) (dOp oMul (dC (.int 2203)) (dVar 1))) (dC (.int 89))) (dNil))) (dC (.int 2147483237))) (dC (.int 1))) (dNil)))))
theorem kp_law_can : Keeps S_law_can 3 t_law_can := by
  rintro ds M Q R ⟨ns, k, hk, rfl, q⟩
  simp only [t_law_can, dVar, dC, dOp, dUn, dTst, dAnd, dOr, dNot, dAndV, dOrV, dNotV, dIfE, dNil, dCons, dTup, dLst, dNew, dCall, dB, dChain, dNext, dSeq, dDrop, dRet, dRetN, dIf, dAsg, gN, gSeq, gT, dPar2, dPar3, dAug, dRaise, dFor, dYes, dLc, dels, del, put, nth, startN, dFrz, dIx, dPart, dNoP, dSl, dApp, dPut, dM1, dFmt, dJs, dJoined, dIsi, dRg1, dRg2, dLsI, dTpI, dStI, dZip, dEnL, dLsRg1, dLsRg2, dNewK, dNewT, dOneT, dSetSort, dLsZip, dNewCan, oAdd, oSub, oMul, oDiv, oMod, oPow, oLt, oLe, oGt, oGe, oIs, oIsNot, oNeg, oIAdd, D.isN, bLen, bInt, bStr, bAbs, bBool, bList, bTuple, D.ty, D.isInt, D.isBool, D.isStr, D.isTup, D.isLst, List.map_cons, List.map_nil, List.length_cons, List.length_nil, List.replicate_succ, List.replicate_zero, List.cons_append, List.nil_append, Option.isSome_some, if_true, if_false, Bool.false_eq_true, reduceIte, Nat.reduceAdd, Nat.reduceSub, Bool.not_true, Bool.not_false, true_and, and_true]
  have fin : ∀ c : Int, 0 ≤ c → (0 ≤ (18 : Int) ∧ (18 : Int) ≤ 1000 ∧ -100 ≤ (10 : Int) ∧ (10 : Int) ≤ 100) ∧
      if decide ((10 : Int) ^ Int.toNat 18 ≤ c) = true then
        (small64 c ∨ small64 97) ∧ (small64 2203 ∨ small64 k) ∧ (0 : Int) < 2147483237 ∧ ∃ i j, [D.int c, D.int ((c * 97 + 2203 * k + 89) % 2147483237 + 1)] = [D.int i, D.int j] ∧ CanOk i j ∧ ∀ (p : Nat), ¬p ∈ keys M → Fg ((p, MO.can) :: M) (Q (D.obj p))
      else (small64 c ∨ small64 97) ∧ (small64 2203 ∨ small64 k) ∧ (0 : Int) < 2147483237 ∧ ∃ i j, [D.int 0, D.int ((c * 97 + 2203 * k + 89) % 2147483237 + 1)] = [D.int i, D.int j] ∧ CanOk i j ∧ ∀ (p : Nat), ¬p ∈ keys M → Fg ((p, MO.can) :: M) (Q (D.obj p)) := fun c hc => by
    refine ⟨by decide, ?_⟩
    have s1 : small64 97 := ⟨by decide, by decide⟩
    have s2 : small64 2203 := ⟨by decide, by decide⟩
    split
    · exact ⟨.inr s1, .inl s2, by decide, _, _, rfl, ⟨hc, by omega, by omega⟩, fun p hp => fg_self (q p hp)⟩
    · exact ⟨.inr s1, .inl s2, by decide, _, _, rfl, ⟨by decide, by omega, by omega⟩, fun p hp => fg_self (q p hp)⟩
  have s3 : small64 1103 := ⟨by decide, by decide⟩
  split
  · rename_i h
    have hl : k < ns.length := by have := of_decide_eq_true h; omega
    have hat : L2.atI ns (k : Int) = some ns[k] := by
      unfold L2.atI L2.ixN
      rw [if_pos (by omega), if_pos (by omega)]
      show ns[((k : Int)).toNat]? = _
      rw [Int.toNat_natCast, List.getElem?_eq_getElem hl]
    exact ⟨_, _, rfl, hat, fin _ (by split <;> omega)⟩
  · exact ⟨.inl s3, fin _ (by omega)⟩
/-- a comprehension by an invariant; what its elements do leaves M as it is -/
theorem lc_inv {g : DTG} {tt : DTT} {te : DTE} {ρ : Env} {M : Mem} {Q : DQ} (I : Nat → List D → Prop) (ds : List D) (h0 : I 0 [])
    (hs : ∀ (i : Nat) (d : D) (acc : List D), ds[i]? = some d → I i acc → ∀ (k1 : DQ) (k2 : Mem → Prop), (∀ y, I (i + 1) (acc ++ [y]) → k1 y M) → (I (i + 1) acc → k2 M) → g d ρ M fun ρ1 M1 => tt ρ1 M1 (fun b M2 => if b = true then te ρ1 M2 k1 noR else k2 M2) noR)
    (hd : ∀ acc, I ds.length acc → Q (.lst acc) M) : dLcL g tt te ρ Q ds [] M := by
  suffices h : ∀ (k i : Nat) (acc : List D), i + k = ds.length → I i acc → dLcL g tt te ρ Q (ds.drop i) acc M from by simpa using h ds.length 0 [] (by omega) h0
  intro k
  induction k with
  | zero =>
    intro i acc hi hI
    have e : i = ds.length := by omega
    subst e
    rw [List.drop_length]
    exact hd acc hI
  | succ k ih =>
    intro i acc hi hI
    have hl : i < ds.length := by omega
    rw [List.drop_eq_getElem_cons hl]
    unfold dLcL
    exact hs i ds[i] acc (List.getElem?_eq_getElem hl) hI _ _ (fun y hy => ih (i + 1) _ (by omega) hy) fun hy => ih (i + 1) _ (by omega) hy
theorem atI_nat {α : Type} {xs : List α} {i : Nat} {d : α} (h : xs[i]? = some d) : L2.atI xs (i : Int) = some d := by
  have hi := (List.getElem?_eq_some_iff.mp h).1
  unfold L2.atI L2.ixN
  rw [if_pos (by omega), if_pos (by omega)]
  show xs[((i : Int)).toNat]? = _
  rw [Int.toNat_natCast, h]
theorem atI_in {α : Type} {xs : List α} {r : Int} (h0 : 0 ≤ r) (h1 : r < xs.length) : ∃ d, d ∈ xs ∧ L2.atI xs r = some d := by
  have hl : r.toNat < xs.length := by omega
  refine ⟨xs[r.toNat], List.getElem_mem hl, ?_⟩
  have := atI_nat (List.getElem?_eq_getElem hl)
  rw [Int.toNat_of_nonneg h0] at this
  exact this
/-- one lift -/
theorem lift_ok {p : Nat} {w : Int} {M : Mem} {Q : DQ} {R : Exn → Mem → Prop} (hm : mget M p = some .can) (h0 : 0 < w) (h1 : w ≤ great) (q : ∀ r : Int, 0 ≤ r → r < w → Q (.int r) M) : S_law_lift [.obj p, .int w] M Q R := ⟨p, w, h0, h1, hm, rfl, q⟩
def S_law_pick : DSp := fun ds M Q R => ∃ (p : Nat) (x : D) (xs : List D), mget M p = some .can ∧ x.items = some xs ∧ 0 < xs.length ∧ xs.length ≤ 100000 ∧ ds = [.obj p, x] ∧ ∀ d ∈ xs, Q d M
def t_law_pick : DTS := dRet (dOp dIx (dVar 1) (dCall S_law_lift (dCons (dVar 0) (dCons (dB bLen (dCons (dVar 1) (dNil))) (dNil)))))
theorem great_eq : great = 1000000000000000000000000000000 := by decide
theorem kp_law_pick : Keeps S_law_pick 2 t_law_pick := by
  rintro ds M Q R ⟨p, x, xs, hm, hx, h0, h1, rfl, q⟩
  have hg : ((xs.length : Nat) : Int) ≤ great := by rw [great_eq]; omega
  cases x with
  | lst ds =>
    cases hx
    simp only [t_law_pick, dVar, dC, dOp, dUn, dTst, dAnd, dOr, dNot, dAndV, dOrV, dNotV, dIfE, dNil, dCons, dTup, dLst, dNew, dCall, dB, dChain, dNext, dSeq, dDrop, dRet, dRetN, dIf, dAsg, gN, gSeq, gT, dPar2, dPar3, dAug, dRaise, dFor, dYes, dLc, dels, del, put, nth, startN, dFrz, dIx, dPart, dNoP, dSl, dApp, dPut, dM1, dFmt, dJs, dJoined, dIsi, dRg1, dRg2, dLsI, dTpI, dStI, dZip, dEnL, dLsRg1, dLsRg2, dNewK, dNewT, dOneT, dSetSort, dLsZip, dNewCan, oAdd, oSub, oMul, oDiv, oMod, oPow, oLt, oLe, oGt, oGe, oIs, oIsNot, oNeg, oIAdd, D.isN, bLen, bInt, bStr, bAbs, bBool, bList, bTuple, D.ty, D.isInt, D.isBool, D.isStr, D.isTup, D.isLst, List.map_cons, List.map_nil, List.length_cons, List.length_nil, List.replicate_succ, List.replicate_zero, List.cons_append, List.nil_append, Option.isSome_some, if_true, if_false, Bool.false_eq_true, reduceIte, Nat.reduceAdd, Nat.reduceSub, Bool.not_true, Bool.not_false, true_and, and_true]
    refine lift_ok hm (by omega) hg fun r hr0 hr1 => ?_
    obtain ⟨d, hd, e⟩ := atI_in hr0 hr1
    exact ⟨r, d, rfl, e, fg_self (q d hd)⟩
  | tup ds =>
    cases hx
    simp only [t_law_pick, dVar, dC, dOp, dUn, dTst, dAnd, dOr, dNot, dAndV, dOrV, dNotV, dIfE, dNil, dCons, dTup, dLst, dNew, dCall, dB, dChain, dNext, dSeq, dDrop, dRet, dRetN, dIf, dAsg, gN, gSeq, gT, dPar2, dPar3, dAug, dRaise, dFor, dYes, dLc, dels, del, put, nth, startN, dFrz, dIx, dPart, dNoP, dSl, dApp, dPut, dM1, dFmt, dJs, dJoined, dIsi, dRg1, dRg2, dLsI, dTpI, dStI, dZip, dEnL, dLsRg1, dLsRg2, dNewK, dNewT, dOneT, dSetSort, dLsZip, dNewCan, oAdd, oSub, oMul, oDiv, oMod, oPow, oLt, oLe, oGt, oGe, oIs, oIsNot, oNeg, oIAdd, D.isN, bLen, bInt, bStr, bAbs, bBool, bList, bTuple, D.ty, D.isInt, D.isBool, D.isStr, D.isTup, D.isLst, List.map_cons, List.map_nil, List.length_cons, List.length_nil, List.replicate_succ, List.replicate_zero, List.cons_append, List.nil_append, Option.isSome_some, if_true, if_false, Bool.false_eq_true, reduceIte, Nat.reduceAdd, Nat.reduceSub, Bool.not_true, Bool.not_false, true_and, and_true]
    refine lift_ok hm (by omega) hg fun r hr0 hr1 => ?_
    obtain ⟨d, hd, e⟩ := atI_in hr0 hr1
    exact ⟨r, d, rfl, e, fg_self (q d hd)⟩
  | str z =>
    cases hx
    have hl : (chD z).length = z.length := by simp [chD, Str.length]
    rw [hl] at h0 h1 hg
    simp only [t_law_pick, dVar, dC, dOp, dUn, dTst, dAnd, dOr, dNot, dAndV, dOrV, dNotV, dIfE, dNil, dCons, dTup, dLst, dNew, dCall, dB, dChain, dNext, dSeq, dDrop, dRet, dRetN, dIf, dAsg, gN, gSeq, gT, dPar2, dPar3, dAug, dRaise, dFor, dYes, dLc, dels, del, put, nth, startN, dFrz, dIx, dPart, dNoP, dSl, dApp, dPut, dM1, dFmt, dJs, dJoined, dIsi, dRg1, dRg2, dLsI, dTpI, dStI, dZip, dEnL, dLsRg1, dLsRg2, dNewK, dNewT, dOneT, dSetSort, dLsZip, dNewCan, oAdd, oSub, oMul, oDiv, oMod, oPow, oLt, oLe, oGt, oGe, oIs, oIsNot, oNeg, oIAdd, D.isN, bLen, bInt, bStr, bAbs, bBool, bList, bTuple, D.ty, D.isInt, D.isBool, D.isStr, D.isTup, D.isLst, List.map_cons, List.map_nil, List.length_cons, List.length_nil, List.replicate_succ, List.replicate_zero, List.cons_append, List.nil_append, Option.isSome_some, if_true, if_false, Bool.false_eq_true, reduceIte, Nat.reduceAdd, Nat.reduceSub, Bool.not_true, Bool.not_false, true_and, and_true]
    refine ⟨h1, lift_ok hm (by omega) hg fun r hr0 hr1 => ?_⟩
    have hr1' : r < (z.cps.toList.length : Nat) := by simpa [Str.length] using hr1
    obtain ⟨c, hc, e⟩ := atI_in hr0 hr1'
    exact ⟨r, c, h1, rfl, e, fg_self (q _ (List.mem_map.mpr ⟨c, hc, rfl⟩))⟩
  | _ => cases hx
theorem pick_ok {p : Nat} {xs : List D} {M : Mem} {Q : DQ} {R : Exn → Mem → Prop} (hm : mget M p = some .can) (h0 : 0 < xs.length) (h1 : xs.length ≤ 100000) (q : ∀ d ∈ xs, Q d M) : S_law_pick [.obj p, .lst xs] M Q R := ⟨p, _, xs, hm, rfl, h0, h1, rfl, q⟩
/-- the list of figures, taken to a text -/
theorem join_fg (l : List Nat) : Txt.join ("" : Str) (l.map fg) = wk l := by
  have e : l.map fg = (l.map fun d => [48 + d]).map SX.S := by rw [List.map_map]; rfl
  have e0 : ("" : Str) = SX.S [] := rfl
  rw [e, e0, SX.join_S]
  have j : ∀ l : List Nat, TL.joinL [] (l.map fun d => [48 + d]) = l.map fun d => 48 + d := by
    intro l
    induction l with
    | nil => rfl
    | cons a l ih =>
      cases l with
      | nil => rfl
      | cons b l =>
        show [48 + a] ++ ([] ++ TL.joinL [] ((b :: l).map fun d => [48 + d])) = _
        rw [ih]; rfl
  rw [j]; rfl
theorem chD_figs : chD ("0123456" : Str) = [0, 1, 2, 3, 4, 5, 6].map fun d => D.str (fg d) := by rfl
theorem asc_sub {l : List Nat} (h : l.Sublist [0, 1, 2, 3, 4, 5, 6]) : Asc l := ⟨(show ([0, 1, 2, 3, 4, 5, 6] : List Nat).Pairwise (· < ·) from by decide).sublist h, fun d hd => by
  have := h.subset hd
  simp only [List.mem_cons, List.not_mem_nil, or_false] at this
  omega⟩
theorem okwk {l : List Nat} (h : Asc l) : (D.str (wk l)).ok := by
  unfold D.ok SeqAt.shaped
  simp only [D.py, PyData.canLay0, PyData.depth, PyData.strOk]
  simp only [Nat.zero_le, decide_true, Bool.and_true, Array.all_eq_true_iff_forall_mem]
  intro c hc
  have hc' : c ∈ (wk l).cps.toList := by simpa using hc
  simp only [wk, List.mem_map] at hc'
  obtain ⟨d, hd, rfl⟩ := hc'
  have := h.2 d hd
  exact decide_eq_true (by omega)
theorem wk_ne {l : List Nat} (h : l ≠ []) : ¬ (wk l).length = 0 := by
  rw [wk_length]
  intro e
  exact h (List.eq_nil_of_length_eq_zero e)
def S_law_some : DSp := fun ds M Q R => ∃ (p : Nat) (share : Int), mget M p = some .can ∧ 0 < share ∧ share ≤ great ∧ ds = [.obj p, .int share] ∧ ∀ l, Asc l → l ≠ [] → Q (.str (wk l)) M
def t_law_some : DTS := dSeq (dAsg (dM1 mJoin (dC (.str ("" : Str))) (dLc [3] (dStI (dC (.str ("0123456" : Str)))) (gN 3) (dTst (dOp oGt (dCall S_law_lift (dCons (dVar 0) (dCons (dVar 1) (dNil)))) (dC (.int 0)))) (dVar 3))) (gN 2)) (dRet (dIfE (dTst (dOp oNe (dVar 2) (dC (.str ("" : Str))))) (dVar 2) (dCall S_law_pick (dCons (dVar 0) (dCons (dC (.str ("0123456" : Str))) (dNil))))))
theorem kp_law_some : Keeps S_law_some 4 t_law_some := by
  rintro ds M Q R ⟨p, share, hm, h0, h1, rfl, q⟩
  simp only [t_law_some, dVar, dC, dOp, dUn, dTst, dAnd, dOr, dNot, dAndV, dOrV, dNotV, dIfE, dNil, dCons, dTup, dLst, dNew, dCall, dB, dChain, dNext, dSeq, dDrop, dRet, dRetN, dIf, dAsg, gN, gSeq, gT, dPar2, dPar3, dAug, dRaise, dFor, dYes, dLc, dels, del, put, nth, startN, dFrz, dIx, dPart, dNoP, dSl, dApp, dPut, dM1, dFmt, dJs, dJoined, dIsi, dRg1, dRg2, dLsI, dTpI, dStI, dZip, dEnL, dLsRg1, dLsRg2, dNewK, dNewT, dOneT, dSetSort, dLsZip, dNewCan, oAdd, oSub, oMul, oDiv, oMod, oPow, oLt, oLe, oGt, oGe, oIs, oIsNot, oNeg, oIAdd, D.isN, bLen, bInt, bStr, bAbs, bBool, bList, bTuple, D.ty, D.isInt, D.isBool, D.isStr, D.isTup, D.isLst, List.map_cons, List.map_nil, List.length_cons, List.length_nil, List.replicate_succ, List.replicate_zero, List.cons_append, List.nil_append, Option.isSome_some, if_true, if_false, Bool.false_eq_true, reduceIte, Nat.reduceAdd, Nat.reduceSub, Bool.not_true, Bool.not_false, true_and, and_true]
  refine ⟨_, rfl, _, rfl, by rw [chD_figs]; decide, ?_⟩
  rw [chD_figs]
  refine lc_inv (fun i acc => ∃ l : List Nat, l.Sublist (([0, 1, 2, 3, 4, 5, 6] : List Nat).take i) ∧ acc = l.map fun d => D.str (fg d)) _ ⟨[], List.nil_sublist _, rfl⟩ ?_ ?_
  · rintro i d acc hd ⟨l, hl, rfl⟩ k1 k2 hk1 hk2
    rw [List.getElem?_map] at hd
    cases e : ([0, 1, 2, 3, 4, 5, 6] : List Nat)[i]? with
    | none => rw [e] at hd; cases hd
    | some n =>
      rw [e] at hd
      cases hd
      have ht : ([0, 1, 2, 3, 4, 5, 6] : List Nat).take (i + 1) = ([0, 1, 2, 3, 4, 5, 6] : List Nat).take i ++ [n] := by
        rw [List.take_add_one, e]; rfl
      simp only [dVar, dC, dOp, dUn, dTst, dAnd, dOr, dNot, dAndV, dOrV, dNotV, dIfE, dNil, dCons, dTup, dLst, dNew, dCall, dB, dChain, dNext, dSeq, dDrop, dRet, dRetN, dIf, dAsg, gN, gSeq, gT, dPar2, dPar3, dAug, dRaise, dFor, dYes, dLc, dels, del, put, nth, startN, dFrz, dIx, dPart, dNoP, dSl, dApp, dPut, dM1, dFmt, dJs, dJoined, dIsi, dRg1, dRg2, dLsI, dTpI, dStI, dZip, dEnL, dLsRg1, dLsRg2, dNewK, dNewT, dOneT, dSetSort, dLsZip, dNewCan, oAdd, oSub, oMul, oDiv, oMod, oPow, oLt, oLe, oGt, oGe, oIs, oIsNot, oNeg, oIAdd, D.isN, bLen, bInt, bStr, bAbs, bBool, bList, bTuple, D.ty, D.isInt, D.isBool, D.isStr, D.isTup, D.isLst, List.map_cons, List.map_nil, List.length_cons, List.length_nil, List.replicate_succ, List.replicate_zero, List.cons_append, List.nil_append, Option.isSome_some, if_true, if_false, Bool.false_eq_true, reduceIte, Nat.reduceAdd, Nat.reduceSub, Bool.not_true, Bool.not_false, true_and, and_true]
      refine lift_ok hm h0 h1 fun r hr0 hr1 => ?_
      dsimp only
      by_cases hr : 0 < r
      · rw [decide_eq_true hr]
        simp only [dVar, dC, dOp, dUn, dTst, dAnd, dOr, dNot, dAndV, dOrV, dNotV, dIfE, dNil, dCons, dTup, dLst, dNew, dCall, dB, dChain, dNext, dSeq, dDrop, dRet, dRetN, dIf, dAsg, gN, gSeq, gT, dPar2, dPar3, dAug, dRaise, dFor, dYes, dLc, dels, del, put, nth, startN, dFrz, dIx, dPart, dNoP, dSl, dApp, dPut, dM1, dFmt, dJs, dJoined, dIsi, dRg1, dRg2, dLsI, dTpI, dStI, dZip, dEnL, dLsRg1, dLsRg2, dNewK, dNewT, dOneT, dSetSort, dLsZip, dNewCan, oAdd, oSub, oMul, oDiv, oMod, oPow, oLt, oLe, oGt, oGe, oIs, oIsNot, oNeg, oIAdd, D.isN, bLen, bInt, bStr, bAbs, bBool, bList, bTuple, D.ty, D.isInt, D.isBool, D.isStr, D.isTup, D.isLst, List.map_cons, List.map_nil, List.length_cons, List.length_nil, List.replicate_succ, List.replicate_zero, List.cons_append, List.nil_append, Option.isSome_some, if_true, if_false, Bool.false_eq_true, reduceIte, Nat.reduceAdd, Nat.reduceSub, Bool.not_true, Bool.not_false, true_and, and_true]
        refine hk1 _ ⟨l ++ [n], ?_, by rw [List.map_append]; rfl⟩
        rw [ht]
        exact hl.append (List.Sublist.refl _)
      · rw [decide_eq_false hr]
        simp only [dVar, dC, dOp, dUn, dTst, dAnd, dOr, dNot, dAndV, dOrV, dNotV, dIfE, dNil, dCons, dTup, dLst, dNew, dCall, dB, dChain, dNext, dSeq, dDrop, dRet, dRetN, dIf, dAsg, gN, gSeq, gT, dPar2, dPar3, dAug, dRaise, dFor, dYes, dLc, dels, del, put, nth, startN, dFrz, dIx, dPart, dNoP, dSl, dApp, dPut, dM1, dFmt, dJs, dJoined, dIsi, dRg1, dRg2, dLsI, dTpI, dStI, dZip, dEnL, dLsRg1, dLsRg2, dNewK, dNewT, dOneT, dSetSort, dLsZip, dNewCan, oAdd, oSub, oMul, oDiv, oMod, oPow, oLt, oLe, oGt, oGe, oIs, oIsNot, oNeg, oIAdd, D.isN, bLen, bInt, bStr, bAbs, bBool, bList, bTuple, D.ty, D.isInt, D.isBool, D.isStr, D.isTup, D.isLst, List.map_cons, List.map_nil, List.length_cons, List.length_nil, List.replicate_succ, List.replicate_zero, List.cons_append, List.nil_append, Option.isSome_some, if_true, if_false, Bool.false_eq_true, reduceIte, Nat.reduceAdd, Nat.reduceSub, Bool.not_true, Bool.not_false, true_and, and_true]
        refine hk2 ⟨l, ?_, rfl⟩
        rw [ht]
        exact hl.trans (List.sublist_append_left _ _)
  · rintro acc ⟨l, hl, rfl⟩
    have hl' : l.Sublist ([0, 1, 2, 3, 4, 5, 6] : List Nat) := by
      have e : ([0, 1, 2, 3, 4, 5, 6] : List Nat).take (([0, 1, 2, 3, 4, 5, 6].map fun d => D.str (fg d)).length) = [0, 1, 2, 3, 4, 5, 6] := by decide
      rw [e] at hl; exact hl
    have ha := asc_sub hl'
    have hlen := ha.len
    simp only [mJoin]
    refine ⟨l.map fg, by rw [List.map_map]; rfl, ?_, ?_⟩
    · have z : ((l.map fg).map (·.length)).sum ≤ l.length := by
        clear hl hl' ha hlen
        induction l with
        | nil => simp
        | cons a l ih =>
          simp only [List.map_cons, List.sum_cons, List.length_cons]
          have : (fg a).length = 1 := rfl
          omega
      have z2 : (("" : Str)).length = 0 := by decide
      rw [z2]; omega
    · rw [join_fg]
      refine ⟨okwk ha, ok_empty, ?_⟩
      rw [eqv_empty]
      by_cases he : l = []
      · subst he
        rw [decide_eq_true (by decide)]
        simp only [dVar, dC, dOp, dUn, dTst, dAnd, dOr, dNot, dAndV, dOrV, dNotV, dIfE, dNil, dCons, dTup, dLst, dNew, dCall, dB, dChain, dNext, dSeq, dDrop, dRet, dRetN, dIf, dAsg, gN, gSeq, gT, dPar2, dPar3, dAug, dRaise, dFor, dYes, dLc, dels, del, put, nth, startN, dFrz, dIx, dPart, dNoP, dSl, dApp, dPut, dM1, dFmt, dJs, dJoined, dIsi, dRg1, dRg2, dLsI, dTpI, dStI, dZip, dEnL, dLsRg1, dLsRg2, dNewK, dNewT, dOneT, dSetSort, dLsZip, dNewCan, oAdd, oSub, oMul, oDiv, oMod, oPow, oLt, oLe, oGt, oGe, oIs, oIsNot, oNeg, oIAdd, D.isN, bLen, bInt, bStr, bAbs, bBool, bList, bTuple, D.ty, D.isInt, D.isBool, D.isStr, D.isTup, D.isLst, List.map_cons, List.map_nil, List.length_cons, List.length_nil, List.replicate_succ, List.replicate_zero, List.cons_append, List.nil_append, Option.isSome_some, if_true, if_false, Bool.false_eq_true, reduceIte, Nat.reduceAdd, Nat.reduceSub, Bool.not_true, Bool.not_false, true_and, and_true]
        refine ⟨p, _, _, hm, rfl, by rw [chD_figs]; decide, by rw [chD_figs]; decide, rfl, fun d hd => ?_⟩
        rw [chD_figs] at hd
        obtain ⟨n, hn, rfl⟩ := List.mem_map.mp hd
        have e : fg n = wk [n] := rfl
        rw [e]
        refine fg_self (q [n] ⟨List.pairwise_singleton _ _, fun d hd => ?_⟩ (by simp))
        simp only [List.mem_cons, List.not_mem_nil, or_false] at hn hd
        omega
      · rw [decide_eq_false (wk_ne he)]
        simp only [dVar, dC, dOp, dUn, dTst, dAnd, dOr, dNot, dAndV, dOrV, dNotV, dIfE, dNil, dCons, dTup, dLst, dNew, dCall, dB, dChain, dNext, dSeq, dDrop, dRet, dRetN, dIf, dAsg, gN, gSeq, gT, dPar2, dPar3, dAug, dRaise, dFor, dYes, dLc, dels, del, put, nth, startN, dFrz, dIx, dPart, dNoP, dSl, dApp, dPut, dM1, dFmt, dJs, dJoined, dIsi, dRg1, dRg2, dLsI, dTpI, dStI, dZip, dEnL, dLsRg1, dLsRg2, dNewK, dNewT, dOneT, dSetSort, dLsZip, dNewCan, oAdd, oSub, oMul, oDiv, oMod, oPow, oLt, oLe, oGt, oGe, oIs, oIsNot, oNeg, oIAdd, D.isN, bLen, bInt, bStr, bAbs, bBool, bList, bTuple, D.ty, D.isInt, D.isBool, D.isStr, D.isTup, D.isLst, List.map_cons, List.map_nil, List.length_cons, List.length_nil, List.replicate_succ, List.replicate_zero, List.cons_append, List.nil_append, Option.isSome_some, if_true, if_false, Bool.false_eq_true, reduceIte, Nat.reduceAdd, Nat.reduceSub, Bool.not_true, Bool.not_false, true_and, and_true]
        exact fg_self (q l ha he)
theorem some_ok {p : Nat} {w : Int} {M : Mem} {Q : DQ} {R : Exn → Mem → Prop} (hm : mget M p = some .can) (h0 : 0 < w) (h1 : w ≤ 100) (q : ∀ l, Asc l → l ≠ [] → Q (.str (wk l)) M) : S_law_some [.obj p, .int w] M Q R := ⟨p, w, hm, h0, by rw [great_eq]; omega, rfl, q⟩
theorem cut_wk (l : List Nat) (n : Nat) : L2.cutS (wk l) none (some (n : Int)) = wk (l.take n) := by
  unfold L2.cutS
  have hl := wk_length l
  have e1 : HT.sIx (wk l).length 0 none = 0 := rfl
  have e2 : HT.sIx (wk l).length (wk l).length (some (n : Int)) = min n l.length := by
    rw [hl]; unfold HT.sIx; simp; omega
  rw [e1, e2, List.drop_zero, Nat.sub_zero]
  have e3 : (wk l).cps.toList = l.map fun d => 48 + d := by simp [wk]
  rw [e3]
  unfold wk
  rw [← List.map_take]
  have e4 : l.take (min n l.length) = l.take n := by
    by_cases h : n ≤ l.length
    · rw [Nat.min_eq_left h]
    · rw [Nat.min_eq_right (by omega), List.take_length, List.take_of_length_le (by omega)]
  rw [e4]
theorem asc_take {l : List Nat} (h : Asc l) (n : Nat) : Asc (l.take n) := ⟨h.1.sublist (List.take_sublist _ _), fun d hd => h.2 d (List.mem_of_mem_take hd)⟩
def S_law_any_house : DSp := fun ds M Q R => ∃ (p : Nat), mget M p = some .can ∧ ds = [.obj p] ∧ ∀ h : Hs, h.Ok → Q h.d M
def t_law_any_house : DTS := dSeq (dAsg (dCall S_law_some (dCons (dVar 0) (dCons (dCall S_law_pick (dCons (dVar 0) (dCons (dLst (dCons (dC (.int 2)) (dCons (dC (.int 3)) (dCons (dC (.int 6)) (dNil))))) (dNil)))) (dNil)))) (gN 1)) (dSeq (dAsg (dOp oAdd (dC (.int 1)) (dCall S_law_lift (dCons (dVar 0) (dCons (dCall S_law_pick (dCons (dVar 0) (dCons (dLst (dCons (dC (.int 1)) (dCons (dC (.int 1)) (dCons (dC (.int 3)) (dNil))))) (dNil)))) (dNil))))) (gN 2)) (dSeq (dAsg (dSl (dCall S_law_some (dCons (dVar 0) (dCons (dCall S_law_pick (dCons (dVar 0) (dCons (dLst (dCons (dC (.int 2)) (dCons (dC (.int 4)) (dNil)))) (dNil)))) (dNil)))) (dNoP) (dPart (dOp oMul (dVar 2) (dB bLen (dCons (dVar 1) (dNil)))))) (gN 3)) (dRet (dTup (dCons (dVar 3) (dCons (dVar 1) (dCons (dVar 2) (dNil))))))))
theorem kp_law_any_house : Keeps S_law_any_house 4 t_law_any_house := by
  rintro ds M Q R ⟨p, hm, rfl, q⟩
  simp only [t_law_any_house, dVar, dC, dOp, dUn, dTst, dAnd, dOr, dNot, dAndV, dOrV, dNotV, dIfE, dNil, dCons, dTup, dLst, dNew, dCall, dB, dChain, dNext, dSeq, dDrop, dRet, dRetN, dIf, dAsg, gN, gSeq, gT, dPar2, dPar3, dAug, dRaise, dFor, dYes, dLc, dels, del, put, nth, startN, dFrz, dIx, dPart, dNoP, dSl, dApp, dPut, dM1, dFmt, dJs, dJoined, dIsi, dRg1, dRg2, dLsI, dTpI, dStI, dZip, dEnL, dLsRg1, dLsRg2, dNewK, dNewT, dOneT, dSetSort, dLsZip, dNewCan, oAdd, oSub, oMul, oDiv, oMod, oPow, oLt, oLe, oGt, oGe, oIs, oIsNot, oNeg, oIAdd, D.isN, bLen, bInt, bStr, bAbs, bBool, bList, bTuple, D.ty, D.isInt, D.isBool, D.isStr, D.isTup, D.isLst, List.map_cons, List.map_nil, List.length_cons, List.length_nil, List.replicate_succ, List.replicate_zero, List.cons_append, List.nil_append, Option.isSome_some, if_true, if_false, Bool.false_eq_true, reduceIte, Nat.reduceAdd, Nat.reduceSub, Bool.not_true, Bool.not_false, true_and, and_true]
  refine ⟨by decide, pick_ok hm (by decide) (by decide) fun d hd => ?_⟩
  have h1 : ∃ w : Int, d = .int w ∧ 0 < w ∧ w ≤ 100 := by
    simp only [List.mem_cons, List.not_mem_nil, or_false] at hd
    rcases hd with e | e | e <;> (subst e; exact ⟨_, rfl, by decide, by decide⟩)
  obtain ⟨w, rfl, w0, w1⟩ := h1
  refine some_ok hm w0 w1 fun run hra hrn => ?_
  simp only [dVar, dC, dOp, dUn, dTst, dAnd, dOr, dNot, dAndV, dOrV, dNotV, dIfE, dNil, dCons, dTup, dLst, dNew, dCall, dB, dChain, dNext, dSeq, dDrop, dRet, dRetN, dIf, dAsg, gN, gSeq, gT, dPar2, dPar3, dAug, dRaise, dFor, dYes, dLc, dels, del, put, nth, startN, dFrz, dIx, dPart, dNoP, dSl, dApp, dPut, dM1, dFmt, dJs, dJoined, dIsi, dRg1, dRg2, dLsI, dTpI, dStI, dZip, dEnL, dLsRg1, dLsRg2, dNewK, dNewT, dOneT, dSetSort, dLsZip, dNewCan, oAdd, oSub, oMul, oDiv, oMod, oPow, oLt, oLe, oGt, oGe, oIs, oIsNot, oNeg, oIAdd, D.isN, bLen, bInt, bStr, bAbs, bBool, bList, bTuple, D.ty, D.isInt, D.isBool, D.isStr, D.isTup, D.isLst, List.map_cons, List.map_nil, List.length_cons, List.length_nil, List.replicate_succ, List.replicate_zero, List.cons_append, List.nil_append, Option.isSome_some, if_true, if_false, Bool.false_eq_true, reduceIte, Nat.reduceAdd, Nat.reduceSub, Bool.not_true, Bool.not_false, true_and, and_true]
  refine ⟨by decide, pick_ok hm (by decide) (by decide) fun d hd => ?_⟩
  have h2 : ∃ w : Int, d = .int w ∧ 0 < w ∧ w ≤ 3 := by
    simp only [List.mem_cons, List.not_mem_nil, or_false] at hd
    rcases hd with e | e | e <;> (subst e; exact ⟨_, rfl, by decide, by decide⟩)
  obtain ⟨w2, rfl, v0, v1⟩ := h2
  refine lift_ok hm v0 (by rw [great_eq]; omega) fun r hr0 hr1 => ?_
  simp only [dVar, dC, dOp, dUn, dTst, dAnd, dOr, dNot, dAndV, dOrV, dNotV, dIfE, dNil, dCons, dTup, dLst, dNew, dCall, dB, dChain, dNext, dSeq, dDrop, dRet, dRetN, dIf, dAsg, gN, gSeq, gT, dPar2, dPar3, dAug, dRaise, dFor, dYes, dLc, dels, del, put, nth, startN, dFrz, dIx, dPart, dNoP, dSl, dApp, dPut, dM1, dFmt, dJs, dJoined, dIsi, dRg1, dRg2, dLsI, dTpI, dStI, dZip, dEnL, dLsRg1, dLsRg2, dNewK, dNewT, dOneT, dSetSort, dLsZip, dNewCan, oAdd, oSub, oMul, oDiv, oMod, oPow, oLt, oLe, oGt, oGe, oIs, oIsNot, oNeg, oIAdd, D.isN, bLen, bInt, bStr, bAbs, bBool, bList, bTuple, D.ty, D.isInt, D.isBool, D.isStr, D.isTup, D.isLst, List.map_cons, List.map_nil, List.length_cons, List.length_nil, List.replicate_succ, List.replicate_zero, List.cons_append, List.nil_append, Option.isSome_some, if_true, if_false, Bool.false_eq_true, reduceIte, Nat.reduceAdd, Nat.reduceSub, Bool.not_true, Bool.not_false, true_and, and_true]
  refine ⟨by decide, pick_ok hm (by decide) (by decide) fun d hd => ?_⟩
  have h3 : ∃ w : Int, d = .int w ∧ 0 < w ∧ w ≤ 100 := by
    simp only [List.mem_cons, List.not_mem_nil, or_false] at hd
    rcases hd with e | e <;> (subst e; exact ⟨_, rfl, by decide, by decide⟩)
  obtain ⟨w3, rfl, x0, x1⟩ := h3
  refine some_ok hm x0 x1 fun tasks hta htn => ?_
  have hrl := hra.len
  have htl := hta.len
  have hrp : 0 < run.length := List.length_pos_iff.mpr hrn
  have htp : 0 < tasks.length := List.length_pos_iff.mpr htn
  simp only [dVar, dC, dOp, dUn, dTst, dAnd, dOr, dNot, dAndV, dOrV, dNotV, dIfE, dNil, dCons, dTup, dLst, dNew, dCall, dB, dChain, dNext, dSeq, dDrop, dRet, dRetN, dIf, dAsg, gN, gSeq, gT, dPar2, dPar3, dAug, dRaise, dFor, dYes, dLc, dels, del, put, nth, startN, dFrz, dIx, dPart, dNoP, dSl, dApp, dPut, dM1, dFmt, dJs, dJoined, dIsi, dRg1, dRg2, dLsI, dTpI, dStI, dZip, dEnL, dLsRg1, dLsRg2, dNewK, dNewT, dOneT, dSetSort, dLsZip, dNewCan, oAdd, oSub, oMul, oDiv, oMod, oPow, oLt, oLe, oGt, oGe, oIs, oIsNot, oNeg, oIAdd, D.isN, bLen, bInt, bStr, bAbs, bBool, bList, bTuple, D.ty, D.isInt, D.isBool, D.isStr, D.isTup, D.isLst, List.map_cons, List.map_nil, List.length_cons, List.length_nil, List.replicate_succ, List.replicate_zero, List.cons_append, List.nil_append, Option.isSome_some, if_true, if_false, Bool.false_eq_true, reduceIte, Nat.reduceAdd, Nat.reduceSub, Bool.not_true, Bool.not_false, true_and, and_true]
  refine ⟨by rw [wk_length]; omega, .inl (small_of (by omega) (by omega)), by rw [wk_length]; omega, ?_⟩
  rw [wk_length]
  obtain ⟨s, hs⟩ := Int.eq_ofNat_of_zero_le (show 0 ≤ 1 + r by omega)
  have e : ((1 + r) * (run.length : Nat) : Int) = ((s * run.length : Nat) : Int) := by rw [hs]; push_cast; rfl
  rw [e, cut_wk]
  refine ⟨by decide, ?_⟩
  have sp : 0 < s := by omega
  have s3 : s ≤ 3 := by omega
  have hs' : (1 + r) = (s : Int) := hs
  rw [hs']
  have pos : 0 < s * run.length := Nat.mul_pos sp hrp
  exact fg_self (q ⟨tasks.take (s * run.length), run, s⟩ ⟨asc_take hta _, hra, by
    intro z
    have := congrArg List.length z
    rw [List.length_take, List.length_nil] at this
    omega, hrn, sp, s3, by
    show (tasks.take (s * run.length)).length ≤ s * run.length
    rw [List.length_take]; exact Nat.min_le_left _ _⟩)
end Dl
namespace Dl
open PySem
/-! # the words of an error -/
def t_law_names (c : Str) (a : Nat) : DTS := dSeq (dAsg (dLst (dCons (dErrIs 0 a (decide (c = "InvalidHouse"))) (dCons (dErrIs 0 a (decide (c = "InvalidCalendar"))) (dCons (dErrIs 0 a (decide (c = "InvalidDay"))) (dNil))))) (gN 1)) (dSeq (dAsg (dOp oAdd (dVar 1) (dLst (dCons (dErrIs 0 a (decide (c = "InvalidNumber"))) (dCons (dErrIs 0 a (decide (c = "InvalidWeekdays"))) (dNil))))) (gN 1)) (dSeq (dAsg (dOp oAdd (dVar 1) (dLst (dCons (dErrIs 0 a (decide (c = "InvalidSeen"))) (dCons (dErrIs 0 a (decide (c = "InvalidSign"))) (dCons (dErrIs 0 a (decide (c = "InvalidText"))) (dNil)))))) (gN 1)) (dSeq (dAsg (dOp oAdd (dVar 1) (dLst (dCons (dErrIs 0 a (decide (c = "Unlike"))) (dCons (dErrIs 0 a (decide (c = "NothingToUndo"))) (dCons (dErrIs 0 a (decide (c = "TooMany"))) (dNil)))))) (gN 1)) (dSeq (dAsg (dOp oAdd (dVar 1) (dLst (dCons (dErrIs 0 a (decide (c = "Failed"))) (dCons (dErrIs 0 a true) (dNil))))) (gN 1)) (dSeq (dAsg (dC (.str ("house calendar day number week seen sign text unlike undo many failed value" : Str))) (gN 2)) (dRet (dM1 mJoin (dC (.str (" " : Str))) (dLc [3, 4] (dZipL (dM1 mSplit (dVar 2) (dC (.str (" " : Str)))) (dVar 1)) (gT [gN 3, gN 4]) (dTst (dVar 4)) (dVar 3)))))))))
theorem word_cases {c l : Str} (h : word c = some l) : (c = "InvalidHouse" ∧ l = "house value") ∨ (c = "InvalidCalendar" ∧ l = "calendar value") ∨ (c = "InvalidDay" ∧ l = "day value") ∨ (c = "InvalidNumber" ∧ l = "number value") ∨ (c = "InvalidWeekdays" ∧ l = "week value") ∨
    (c = "InvalidSeen" ∧ l = "seen value") ∨ (c = "InvalidSign" ∧ l = "sign value") ∨ (c = "InvalidText" ∧ l = "text value") ∨ (c = "Unlike" ∧ l = "unlike value") ∨ (c = "NothingToUndo" ∧ l = "undo value") := by
  obtain ⟨x, hx, rfl⟩ := word_mem h
  unfold labels at hx
  simp only [List.mem_cons, List.not_mem_nil, or_false, Prod.mk.injEq] at hx
  rcases hx with ⟨rfl, rfl⟩ | ⟨rfl, rfl⟩ | ⟨rfl, rfl⟩ | ⟨rfl, rfl⟩ | ⟨rfl, rfl⟩ | ⟨rfl, rfl⟩ | ⟨rfl, rfl⟩ | ⟨rfl, rfl⟩ | ⟨rfl, rfl⟩ | ⟨rfl, rfl⟩
  · exact .inl ⟨rfl, by decide⟩
  · exact .inr (.inl ⟨rfl, by decide⟩)
  · exact .inr (.inr (.inl ⟨rfl, by decide⟩))
  · exact .inr (.inr (.inr (.inl ⟨rfl, by decide⟩)))
  · exact .inr (.inr (.inr (.inr (.inl ⟨rfl, by decide⟩))))
  · exact .inr (.inr (.inr (.inr (.inr (.inl ⟨rfl, by decide⟩)))))
  · exact .inr (.inr (.inr (.inr (.inr (.inr (.inl ⟨rfl, by decide⟩))))))
  · exact .inr (.inr (.inr (.inr (.inr (.inr (.inr (.inl ⟨rfl, by decide⟩)))))))
  · exact .inr (.inr (.inr (.inr (.inr (.inr (.inr (.inr (.inl ⟨rfl, by decide⟩))))))))
  · exact .inr (.inr (.inr (.inr (.inr (.inr (.inr (.inr (.inr ⟨rfl, by decide⟩))))))))
def D.b2 : D → Bool
  | .bl b => b
  | _ => false
def labs : List Str := ["house", "calendar", "day", "number", "week", "seen", "sign", "text", "unlike", "undo", "many", "failed", "value"]
theorem split_labs : Txt.split ("house calendar day number week seen sign text unlike undo many failed value" : Str) (" " : Str) = labs := by decide +kernel
theorem zip_labs : ∀ (ls : List Str) (bs : List Bool), ls.length = bs.length → ((zipD (ls.map D.str) (bs.map D.bl)).filter fun d => d.pr.2.b2).map (fun d => d.pr.1) = (((ls.zip bs).filter fun p => p.2).map fun p => D.str p.1)
  | [], [], _ => rfl
  | l :: ls, b :: bs, h => by
    have ih := zip_labs ls bs (by simpa using h)
    rw [List.map_cons, List.map_cons, zipD, List.zip_cons_cons]
    cases b with
    | true => rw [List.filter_cons_of_pos rfl, List.filter_cons_of_pos rfl, List.map_cons, List.map_cons, ih]; rfl
    | false => rw [List.filter_cons_of_neg (by simp [D.pr, D.b2]), List.filter_cons_of_neg (by simp), ih]
def namesB (bs : List Bool) : List Str := ((labs.zip bs).filter fun p => p.2).map fun p => p.1
theorem names_fin (bs : List Bool) (hb : bs.length = 13) (l : Str) (hl : Txt.join (" " : Str) (namesB bs) = l) (M : Mem) (Q : DQ) (q : Q (.str l) M) (ρ : Env) (o : List (Option D)) (h1 : ρ = [o.getD 0 none, o.getD 1 none, o.getD 2 none, none, none]) :
    dLcL (gT [gN 3, gN 4]) (dTst (dVar 4)) (dVar 3) ρ (fun y M2 => mJoin (" " : Str) y M2 Q) (zipD (labs.map D.str) (bs.map D.bl)) [] M := by
  subst h1
  refine lc_pure (fun d => d.pr.2.b2) (fun d => d.pr.1) _ [] (fun d hd k1 k2 h1 h2 => ?_) ?_
  · obtain ⟨x, y, hx, hy, rfl⟩ := mem_zip hd
    obtain ⟨b, _, rfl⟩ := List.mem_map.mp hy
    simp only [dVar, dC, dOp, dUn, dTst, dAnd, dOr, dNot, dAndV, dOrV, dNotV, dIfE, dNil, dCons, dTup, dLst, dNew, dCall, dB, dChain, dNext, dSeq, dDrop, dRet, dRetN, dIf, dAsg, gN, gSeq, gT, dPar2, dPar3, dAug, dRaise, dFor, dYes, dLc, dels, del, put, nth, startN, dFrz, dIx, dPart, dNoP, dSl, dApp, dPut, dM1, dFmt, dJs, dJoined, dIsi, dRg1, dRg2, dLsI, dTpI, dStI, dZip, dEnL, dLsRg1, dLsRg2, dNewK, dNewT, dOneT, dSetSort, dLsZip, dNewCan, oAdd, oSub, oMul, oDiv, oMod, oPow, oLt, oLe, oGt, oGe, oIs, oIsNot, oNeg, oIAdd, D.isN, bLen, bInt, bStr, bAbs, bBool, bList, bTuple, D.ty, D.isInt, D.isBool, D.isStr, D.isTup, D.isLst, List.map_cons, List.map_nil, List.length_cons, List.length_nil, List.replicate_succ, List.replicate_zero, List.cons_append, List.nil_append, Option.isSome_some, if_true, if_false, Bool.false_eq_true, reduceIte, Nat.reduceAdd, Nat.reduceSub, Bool.not_true, Bool.not_false, true_and, and_true]
    cases b with
    | true => simp only [dVar, dC, dOp, dUn, dTst, dAnd, dOr, dNot, dAndV, dOrV, dNotV, dIfE, dNil, dCons, dTup, dLst, dNew, dCall, dB, dChain, dNext, dSeq, dDrop, dRet, dRetN, dIf, dAsg, gN, gSeq, gT, dPar2, dPar3, dAug, dRaise, dFor, dYes, dLc, dels, del, put, nth, startN, dFrz, dIx, dPart, dNoP, dSl, dApp, dPut, dM1, dFmt, dJs, dJoined, dIsi, dRg1, dRg2, dLsI, dTpI, dStI, dZip, dEnL, dLsRg1, dLsRg2, dNewK, dNewT, dOneT, dSetSort, dLsZip, dNewCan, oAdd, oSub, oMul, oDiv, oMod, oPow, oLt, oLe, oGt, oGe, oIs, oIsNot, oNeg, oIAdd, D.isN, bLen, bInt, bStr, bAbs, bBool, bList, bTuple, D.ty, D.isInt, D.isBool, D.isStr, D.isTup, D.isLst, List.map_cons, List.map_nil, List.length_cons, List.length_nil, List.replicate_succ, List.replicate_zero, List.cons_append, List.nil_append, Option.isSome_some, if_true, if_false, Bool.false_eq_true, reduceIte, Nat.reduceAdd, Nat.reduceSub, Bool.not_true, Bool.not_false, true_and, and_true]; exact h1 rfl
    | false => simp only [dVar, dC, dOp, dUn, dTst, dAnd, dOr, dNot, dAndV, dOrV, dNotV, dIfE, dNil, dCons, dTup, dLst, dNew, dCall, dB, dChain, dNext, dSeq, dDrop, dRet, dRetN, dIf, dAsg, gN, gSeq, gT, dPar2, dPar3, dAug, dRaise, dFor, dYes, dLc, dels, del, put, nth, startN, dFrz, dIx, dPart, dNoP, dSl, dApp, dPut, dM1, dFmt, dJs, dJoined, dIsi, dRg1, dRg2, dLsI, dTpI, dStI, dZip, dEnL, dLsRg1, dLsRg2, dNewK, dNewT, dOneT, dSetSort, dLsZip, dNewCan, oAdd, oSub, oMul, oDiv, oMod, oPow, oLt, oLe, oGt, oGe, oIs, oIsNot, oNeg, oIAdd, D.isN, bLen, bInt, bStr, bAbs, bBool, bList, bTuple, D.ty, D.isInt, D.isBool, D.isStr, D.isTup, D.isLst, List.map_cons, List.map_nil, List.length_cons, List.length_nil, List.replicate_succ, List.replicate_zero, List.cons_append, List.nil_append, Option.isSome_some, if_true, if_false, Bool.false_eq_true, reduceIte, Nat.reduceAdd, Nat.reduceSub, Bool.not_true, Bool.not_false, true_and, and_true]; exact h2 rfl
  · rw [List.nil_append, zip_labs labs bs (by rw [hb]; rfl)]
    refine ⟨namesB bs, by unfold namesB; rw [List.map_map]; rfl, ?_, by rw [hl]; exact q⟩
    have z : ∀ (ls : List Str) (bs : List Bool), ((((ls.zip bs).filter fun p => p.2).map fun p => p.1).map (·.length)).sum ≤ (ls.map (·.length)).sum ∧ (((ls.zip bs).filter fun p => p.2).map fun p => p.1).length ≤ ls.length := by
      intro ls
      induction ls with
      | nil => intro bs; simp
      | cons a ls ih =>
        intro bs
        cases bs with
        | nil => simp
        | cons b bs =>
          obtain ⟨i1, i2⟩ := ih bs
          rw [List.zip_cons_cons]
          cases b with
          | true => rw [List.filter_cons_of_pos rfl]; simp only [List.map_cons, List.sum_cons, List.length_cons]; exact ⟨by omega, by omega⟩
          | false => rw [List.filter_cons_of_neg (by simp)]; simp only [List.map_cons, List.sum_cons, List.length_cons]; exact ⟨by omega, by omega⟩
    obtain ⟨z1, z2⟩ := z labs bs
    have e1 : (labs.map (·.length)).sum = 63 := by decide
    have e2 : labs.length = 13 := rfl
    have e3 : (" " : Str).length = 1 := by decide
    unfold namesB
    rw [e3]
    omega
theorem kp_law_names : ∀ (c l : Str), word c = some l → ∀ (a : Nat) (M : Mem) (Q : DQ), Q (.str l) M → t_law_names c a { nx := fun _ M' => Fg M' (Q .non), rt := fun d M' => Fg M' (Q d) } (startN 5 [.obj a]) M fun _ _ _ => False := by
  intro c l hw a M Q q
  have hl : Txt.join (" " : Str) (namesB [decide (c = "InvalidHouse"), decide (c = "InvalidCalendar"), decide (c = "InvalidDay"), decide (c = "InvalidNumber"), decide (c = "InvalidWeekdays"), decide (c = "InvalidSeen"), decide (c = "InvalidSign"), decide (c = "InvalidText"), decide (c = "Unlike"), decide (c = "NothingToUndo"), decide (c = "TooMany"), decide (c = "Failed"), true]) = l := by
    rcases word_cases hw with ⟨rfl, rfl⟩ | ⟨rfl, rfl⟩ | ⟨rfl, rfl⟩ | ⟨rfl, rfl⟩ | ⟨rfl, rfl⟩ | ⟨rfl, rfl⟩ | ⟨rfl, rfl⟩ | ⟨rfl, rfl⟩ | ⟨rfl, rfl⟩ | ⟨rfl, rfl⟩ <;> decide +kernel
  simp only [t_law_names, dVar, dC, dOp, dUn, dTst, dAnd, dOr, dNot, dAndV, dOrV, dNotV, dIfE, dNil, dCons, dTup, dLst, dNew, dCall, dB, dChain, dNext, dSeq, dDrop, dRet, dRetN, dIf, dAsg, gN, gSeq, gT, dPar2, dPar3, dAug, dRaise, dFor, dYes, dLc, dels, del, put, nth, startN, dFrz, dIx, dPart, dNoP, dSl, dApp, dPut, dM1, dFmt, dJs, dJoined, dIsi, dRg1, dRg2, dLsI, dTpI, dStI, dZip, dEnL, dLsRg1, dLsRg2, dNewK, dNewT, dOneT, dSetSort, dLsZip, dNewCan, oAdd, oSub, oMul, oDiv, oMod, oPow, oLt, oLe, oGt, oGe, oIs, oIsNot, oNeg, oIAdd, D.isN, bLen, bInt, bStr, bAbs, bBool, bList, bTuple, D.ty, D.isInt, D.isBool, D.isStr, D.isTup, D.isLst, List.map_cons, List.map_nil, List.length_cons, List.length_nil, List.replicate_succ, List.replicate_zero, List.cons_append, List.nil_append, Option.isSome_some, if_true, if_false, Bool.false_eq_true, reduceIte, Nat.reduceAdd, Nat.reduceSub, Bool.not_true, Bool.not_false, true_and, and_true, dErrIs, dZipL, mSplit]
  refine ⟨by decide, by decide, by decide, by decide, by decide, by decide, by decide, by decide, by decide, _, rfl, _, rfl, _, rfl, by decide, by decide, _, _, rfl, rfl, ?_⟩
  rw [split_labs]
  refine ⟨by rw [zipD_length]; exact Nat.le_trans (Nat.min_le_left _ _) (by decide), ?_⟩
  exact names_fin [_, _, _, _, _, _, _, _, _, _, _, _, _] rfl l hl M (fun d M' => Fg M' (Q d)) (fg_self q) _ [_, _, _] rfl
end Dl
namespace Dl
open PySem
/-! # values of any kind -/
def D.goodB : Nat → D → Bool
  | _, .non => true
  | _, .bl _ => true
  | _, .int _ => true
  | _, .str z => decide (z.length ≤ 1000) && z.cps.all (· < 0x110000)
  | n + 1, .tup ds => decide (ds.length ≤ 1000) && ds.all (D.goodB n)
  | n + 1, .lst ds => decide (ds.length ≤ 1000) && ds.all (D.goodB n)
  | _, _ => false
theorem goodB_tup {n : Nat} {ds : List D} : (D.tup ds).goodB (n + 1) = (decide (ds.length ≤ 1000) && ds.all (D.goodB n)) := rfl
theorem goodB_lst {n : Nat} {ds : List D} : (D.lst ds).goodB (n + 1) = (decide (ds.length ≤ 1000) && ds.all (D.goodB n)) := rfl
theorem goodB_mono : ∀ {n m : Nat} {d : D}, n ≤ m → d.goodB n = true → d.goodB m = true
  | n, m, .non, _, _ => by cases m <;> rfl
  | n, m, .bl _, _, _ => by cases m <;> rfl
  | n, m, .int _, _, _ => by cases m <;> rfl
  | 0, 0, .str z, _, h => h
  | 0, m + 1, .str z, _, h => h
  | n + 1, m + 1, .str z, _, h => h
  | n + 1, m + 1, .tup ds, hm, h => by
    rw [goodB_tup, Bool.and_eq_true] at h ⊢
    exact ⟨h.1, List.all_eq_true.mpr fun d hd => goodB_mono (Nat.le_of_succ_le_succ hm) (List.all_eq_true.mp h.2 d hd)⟩
  | n + 1, m + 1, .lst ds, hm, h => by
    rw [goodB_lst, Bool.and_eq_true] at h ⊢
    exact ⟨h.1, List.all_eq_true.mpr fun d hd => goodB_mono (Nat.le_of_succ_le_succ hm) (List.all_eq_true.mp h.2 d hd)⟩
  | 0, _, .tup ds, _, h => by cases h
  | 0, _, .lst ds, _, h => by cases h
  | 0, _, .scr _, _, h => by cases h
  | _ + 1, _, .scr _, _, h => by cases h
  | 0, _, .fn _, _, h => by cases h
  | _ + 1, _, .fn _, _, h => by cases h
  | 0, _, .obj _, _, h => by cases h
  | _ + 1, _, .obj _, _, h => by cases h
theorem pyL_lay {n : Nat} : ∀ {ds : List D}, (∀ d ∈ ds, d.py.canLay0 = true ∧ d.py.depth ≤ n) → PyData.canLayAll0 (D.pyL ds) = true ∧ PyData.depthAll (D.pyL ds) ≤ n
  | [], _ => by simp [D.pyL, PyData.canLayAll0, PyData.depthAll]
  | d :: ds, h => by
    obtain ⟨h1, h2⟩ := h d (List.mem_cons_self ..)
    obtain ⟨i1, i2⟩ := pyL_lay (ds := ds) fun e he => h e (List.mem_cons_of_mem _ he)
    simp only [D.pyL, PyData.canLayAll0, PyData.depthAll, h1, i1, Bool.and_self, true_and]
    omega
theorem goodB_lay : ∀ {n : Nat} {d : D}, d.goodB n = true → d.py.canLay0 = true ∧ d.py.depth ≤ n
  | n, .non, _ => by simp [D.py, PyData.canLay0, PyData.depth]
  | n, .bl _, _ => by simp [D.py, PyData.canLay0, PyData.depth]
  | n, .int _, _ => by simp [D.py, PyData.canLay0, PyData.depth]
  | 0, .str z, h => by
    have h' : (decide (z.length ≤ 1000) && z.cps.all (· < 0x110000)) = true := h
    rw [Bool.and_eq_true] at h'
    simp only [D.py, PyData.canLay0, PyData.depth, PyData.strOk]
    exact ⟨h'.2, Nat.le_refl _⟩
  | n + 1, .str z, h => by
    have h' : (decide (z.length ≤ 1000) && z.cps.all (· < 0x110000)) = true := h
    rw [Bool.and_eq_true] at h'
    simp only [D.py, PyData.canLay0, PyData.depth, PyData.strOk]
    exact ⟨h'.2, Nat.zero_le _⟩
  | n + 1, .tup ds, h => by
    rw [goodB_tup, Bool.and_eq_true] at h
    obtain ⟨h1, h2⟩ := pyL_lay (n := n) fun d hd => goodB_lay (List.all_eq_true.mp h.2 d hd)
    simp only [D.py, PyData.canLay0, PyData.depth]
    exact ⟨h1, Nat.succ_le_succ h2⟩
  | n + 1, .lst ds, h => by
    rw [goodB_lst, Bool.and_eq_true] at h
    obtain ⟨h1, h2⟩ := pyL_lay (n := n) fun d hd => goodB_lay (List.all_eq_true.mp h.2 d hd)
    simp only [D.py, PyData.canLay0, PyData.depth]
    exact ⟨h1, Nat.succ_le_succ h2⟩
  | 0, .tup ds, h => by cases h
  | 0, .lst ds, h => by cases h
  | 0, .scr _, h => by cases h
  | _ + 1, .scr _, h => by cases h
  | 0, .fn _, h => by cases h
  | _ + 1, .fn _, h => by cases h
  | 0, .obj _, h => by cases h
  | _ + 1, .obj _, h => by cases h
theorem good_ok {n : Nat} {d : D} (h : d.goodB n = true) (hn : n ≤ 64) : d.ok := by
  obtain ⟨h1, h2⟩ := goodB_lay h
  unfold D.ok SeqAt.shaped
  rw [h1, decide_eq_true (Nat.le_trans h2 hn)]; rfl
theorem good_fine {n : Nat} {d : D} (h : d.goodB n = true) : d.fine := by
  cases d with
  | str z =>
    have h' : (decide (z.length ≤ 1000) && z.cps.all (· < 0x110000)) = true := by cases n <;> exact h
    rw [Bool.and_eq_true] at h'
    exact ⟨rfl, fun y e => by cases e; have := of_decide_eq_true h'.1; omega⟩
  | scr _ => cases n <;> cases h
  | fn _ => cases n <;> cases h
  | obj _ => cases n <;> cases h
  | _ => exact ⟨rfl, fun y e => by cases e⟩
theorem good_fine2 {n : Nat} {d : D} (h : d.goodB n = true) : d.fine2 := ⟨good_fine h, fun ds e => by
  subst e
  cases n with
  | zero => cases h
  | succ n =>
    rw [goodB_tup, Bool.and_eq_true] at h
    exact ⟨by have := of_decide_eq_true h.1; omega, fun d hd => good_fine (List.all_eq_true.mp h.2 d hd)⟩⟩
mutual
theorem eqv_self : ∀ d : PyData, d.canLay0 = true → PyData.eqv d d = true
  | .none, _ => by simp [PyData.eqv]
  | .bool _, _ => by simp [PyData.eqv]
  | .int _, _ => by simp [PyData.eqv]
  | .str _, _ => by simp [PyData.eqv]
  | .list xs, h => by simp only [PyData.eqv]; exact eqvAll_self xs (by simpa [PyData.canLay0] using h)
  | .tuple xs, h => by simp only [PyData.eqv]; exact eqvAll_self xs (by simpa [PyData.canLay0] using h)
  | .dict _, h => by simp [PyData.canLay0] at h
theorem eqvAll_self : ∀ ds : List PyData, PyData.canLayAll0 ds = true → PyData.eqvAll ds ds = true
  | [], _ => by simp [PyData.eqvAll]
  | d :: ds, h => by
    have h' : d.canLay0 = true ∧ PyData.canLayAll0 ds = true := by simpa [PyData.canLayAll0] using h
    simp only [PyData.eqvAll, eqv_self d h'.1, eqvAll_self ds h'.2, Bool.and_self]
end
theorem good_eqv {n : Nat} {d : D} (h : d.goodB n = true) : d.eqv d = true := eqv_self _ (goodB_lay h).1
/-- x == x, x != x -/
theorem eq_same {n : Nat} {d : D} (h : d.goodB n = true) (hn : n ≤ 64) {M : Mem} {Q : DQ} (q : Q (.bl true) M) : oEq d d M Q := ⟨good_ok h hn, good_ok h hn, by rw [good_eqv h]; exact q⟩
theorem ne_same {n : Nat} {d : D} (h : d.goodB n = true) (hn : n ≤ 64) {M : Mem} {Q : DQ} (q : Q (.bl false) M) : oNe d d M Q := ⟨good_ok h hn, good_ok h hn, by rw [good_eqv h]; exact q⟩
def Sr_law_any_value : Nat → DSp
  | 0 => voidS
  | d + 1 => fun ds M Q R => ∃ (p deep : Nat), deep ≤ d ∧ mget M p = some .can ∧ ds = [.obj p, .int (deep : Int)] ∧ ∀ x : D, x.goodB (deep + 1) = true → Q x M
def S_law_any_value : DSp := Sr_law_any_value 4
theorem lnr_law_any_value : ∀ (d : Nat) (ds : List D) (M : Mem) (Q : DQ) (R : Exn → Mem → Prop), Sr_law_any_value d ds M Q R → ds.length = 2
  | 0, _, _, _, _, h => h.elim
  | d + 1, _, _, _, _, h => by obtain ⟨_, _, _, _, rfl, _⟩ := h; rfl
def t_law_any_value (S_rec : DSp) : DTS := dSeq (dAsg (dLst (dCons (dC .non) (dCons (dC (.bl true)) (dCons (dC (.bl false)) (dCons (dC (.int 0)) (dCons (dC (.int 1)) (dCons (dC (.int 3)) (dCons (dC (.int 4)) (dCons (dC (.int 7)) (dCons (dUn oNeg (dC (.int 1))) (dCons (dOp oPow (dC (.int 10)) (dC (.int 30))) (dCons (dOp oAdd (dOp oPow (dC (.int 10)) (dC (.int 30))) (dC (.int 1))) (dCons (dC (.str ("" : Str))) (dCons (dC (.str ("0" : Str))) (dCons (dC (.str ("01" : Str))) (dCons (dC (.str ("10" : Str))) (dCons (dC (.str ("7" : Str))) (dCons (dC (.str ("0/01*1" : Str))) (dCons (dTup (dNil)) (dNil)))))))))))))))))))) (gN 2)) (dSeq (dAsg (dOp oAdd (dVar 2) (dLst (dCons (dTup (dCons (dC (.str ("0" : Str))) (dCons (dC (.str ("01" : Str))) (dCons (dC (.int 1)) (dNil))))) (dCons (dTup (dCons (dC (.str ("01234" : Str))) (dCons (dC (.str ("012345" : Str))) (dCons (dC (.int 1)) (dNil))))) (dCons (dTup (dCons (dC (.int 0)) (dCons (dC (.int 7)) (dNil)))) (dCons (dTup (dCons (dC (.int 7)) (dCons (dC (.int 0)) (dNil)))) (dCons (dLst (dCons (dC (.int 0)) (dNil))) (dCons (dTup (dCons (dC (.str ("" : Str))) (dCons (dC (.str ("0" : Str))) (dCons (dC (.int 1)) (dNil))))) (dCons (dTup (dCons (dC (.str ("01" : Str))) (dCons (dC (.str ("0" : Str))) (dCons (dC (.int 1)) (dNil))))) (dCons (dC (.str ("h-" : Str))) (dNil))))))))))) (gN 2)) (dSeq (dAsg (dOp oAdd (dVar 2) (dLst (dCons (dLst (dNil)) (dCons (dC (.str ("." : Str))) (dNil))))) (gN 2)) (dSeq (dIf (dOr (dTst (dOp oEq (dVar 1) (dC (.int 0)))) (dTst (dOp oLt (dCall S_law_lift (dCons (dVar 0) (dCons (dC (.int 9)) (dNil)))) (dC (.int 6))))) (dRet (dCall S_law_pick (dCons (dVar 0) (dCons (dVar 2) (dNil))))) (dNext)) (dSeq (dAsg (dLc [4] (dRg1 (dCall S_law_lift (dCons (dVar 0) (dCons (dC (.int 4)) (dNil))))) (gN 4) (dYes) (dCall S_rec (dCons (dVar 0) (dCons (dOp oSub (dVar 1) (dC (.int 1))) (dNil))))) (gN 3)) (dRet (dIfE (dTst (dOp oEq (dCall S_law_lift (dCons (dVar 0) (dCons (dC (.int 3)) (dNil)))) (dC (.int 0)))) (dVar 3) (dB bTuple (dCons (dVar 3) (dNil)))))))))
theorem kpr_law_any_value : ∀ d : Nat, Keeps (Sr_law_any_value (d + 1)) 5 (t_law_any_value (Sr_law_any_value d)) := by
  rintro d ds M Q R ⟨p, deep, hd, hm, rfl, q⟩
  simp only [t_law_any_value, dVar, dC, dOp, dUn, dTst, dAnd, dOr, dNot, dAndV, dOrV, dNotV, dIfE, dNil, dCons, dTup, dLst, dNew, dCall, dB, dChain, dNext, dSeq, dDrop, dRet, dRetN, dIf, dAsg, gN, gSeq, gT, dPar2, dPar3, dAug, dRaise, dFor, dYes, dLc, dels, del, put, nth, startN, dFrz, dIx, dPart, dNoP, dSl, dApp, dPut, dM1, dFmt, dJs, dJoined, dIsi, dRg1, dRg2, dLsI, dTpI, dStI, dZip, dEnL, dLsRg1, dLsRg2, dNewK, dNewT, dOneT, dSetSort, dLsZip, dNewCan, oAdd, oSub, oMul, oDiv, oMod, oPow, oLt, oLe, oGt, oGe, oIs, oIsNot, oNeg, oIAdd, D.isN, bLen, bInt, bStr, bAbs, bBool, bList, bTuple, D.ty, D.isInt, D.isBool, D.isStr, D.isTup, D.isLst, List.map_cons, List.map_nil, List.length_cons, List.length_nil, List.replicate_succ, List.replicate_zero, List.cons_append, List.nil_append, Option.isSome_some, if_true, if_false, Bool.false_eq_true, reduceIte, Nat.reduceAdd, Nat.reduceSub, Bool.not_true, Bool.not_false, true_and, and_true, oNeg]
  refine ⟨by decide, by decide, by decide, by decide, by decide, by decide, by decide, by decide, by decide, by decide, by decide, by decide, by decide, by decide, by decide, by decide, ok_int _, ok_int _, ?_⟩
  rw [eqv_int]
  have pk : ∀ (l : List D), l.all (D.goodB 1) = true → 0 < l.length → l.length ≤ 100000 → S_law_pick [D.obj p, D.lst l] M (fun d M' => Fg M' (Q d)) fun ex M2 => Fg M2 (R ex) := fun l hl h0 h1 =>
    pick_ok hm h0 h1 fun x hx => fg_self (q x (goodB_mono (by omega) (List.all_eq_true.mp hl x hx)))
  by_cases h0 : (deep : Int) = 0
  · rw [decide_eq_true h0]
    simp only [dVar, dC, dOp, dUn, dTst, dAnd, dOr, dNot, dAndV, dOrV, dNotV, dIfE, dNil, dCons, dTup, dLst, dNew, dCall, dB, dChain, dNext, dSeq, dDrop, dRet, dRetN, dIf, dAsg, gN, gSeq, gT, dPar2, dPar3, dAug, dRaise, dFor, dYes, dLc, dels, del, put, nth, startN, dFrz, dIx, dPart, dNoP, dSl, dApp, dPut, dM1, dFmt, dJs, dJoined, dIsi, dRg1, dRg2, dLsI, dTpI, dStI, dZip, dEnL, dLsRg1, dLsRg2, dNewK, dNewT, dOneT, dSetSort, dLsZip, dNewCan, oAdd, oSub, oMul, oDiv, oMod, oPow, oLt, oLe, oGt, oGe, oIs, oIsNot, oNeg, oIAdd, D.isN, bLen, bInt, bStr, bAbs, bBool, bList, bTuple, D.ty, D.isInt, D.isBool, D.isStr, D.isTup, D.isLst, List.map_cons, List.map_nil, List.length_cons, List.length_nil, List.replicate_succ, List.replicate_zero, List.cons_append, List.nil_append, Option.isSome_some, if_true, if_false, Bool.false_eq_true, reduceIte, Nat.reduceAdd, Nat.reduceSub, Bool.not_true, Bool.not_false, true_and, and_true]
    exact pk _ (by decide +kernel) (by decide) (by decide)
  · rw [decide_eq_false h0]
    simp only [dVar, dC, dOp, dUn, dTst, dAnd, dOr, dNot, dAndV, dOrV, dNotV, dIfE, dNil, dCons, dTup, dLst, dNew, dCall, dB, dChain, dNext, dSeq, dDrop, dRet, dRetN, dIf, dAsg, gN, gSeq, gT, dPar2, dPar3, dAug, dRaise, dFor, dYes, dLc, dels, del, put, nth, startN, dFrz, dIx, dPart, dNoP, dSl, dApp, dPut, dM1, dFmt, dJs, dJoined, dIsi, dRg1, dRg2, dLsI, dTpI, dStI, dZip, dEnL, dLsRg1, dLsRg2, dNewK, dNewT, dOneT, dSetSort, dLsZip, dNewCan, oAdd, oSub, oMul, oDiv, oMod, oPow, oLt, oLe, oGt, oGe, oIs, oIsNot, oNeg, oIAdd, D.isN, bLen, bInt, bStr, bAbs, bBool, bList, bTuple, D.ty, D.isInt, D.isBool, D.isStr, D.isTup, D.isLst, List.map_cons, List.map_nil, List.length_cons, List.length_nil, List.replicate_succ, List.replicate_zero, List.cons_append, List.nil_append, Option.isSome_some, if_true, if_false, Bool.false_eq_true, reduceIte, Nat.reduceAdd, Nat.reduceSub, Bool.not_true, Bool.not_false, true_and, and_true]
    refine lift_ok hm (by decide) (by decide) fun r hr0 hr1 => ?_
    dsimp only
    by_cases h6 : r < 6
    · rw [decide_eq_true h6]
      simp only [dVar, dC, dOp, dUn, dTst, dAnd, dOr, dNot, dAndV, dOrV, dNotV, dIfE, dNil, dCons, dTup, dLst, dNew, dCall, dB, dChain, dNext, dSeq, dDrop, dRet, dRetN, dIf, dAsg, gN, gSeq, gT, dPar2, dPar3, dAug, dRaise, dFor, dYes, dLc, dels, del, put, nth, startN, dFrz, dIx, dPart, dNoP, dSl, dApp, dPut, dM1, dFmt, dJs, dJoined, dIsi, dRg1, dRg2, dLsI, dTpI, dStI, dZip, dEnL, dLsRg1, dLsRg2, dNewK, dNewT, dOneT, dSetSort, dLsZip, dNewCan, oAdd, oSub, oMul, oDiv, oMod, oPow, oLt, oLe, oGt, oGe, oIs, oIsNot, oNeg, oIAdd, D.isN, bLen, bInt, bStr, bAbs, bBool, bList, bTuple, D.ty, D.isInt, D.isBool, D.isStr, D.isTup, D.isLst, List.map_cons, List.map_nil, List.length_cons, List.length_nil, List.replicate_succ, List.replicate_zero, List.cons_append, List.nil_append, Option.isSome_some, if_true, if_false, Bool.false_eq_true, reduceIte, Nat.reduceAdd, Nat.reduceSub, Bool.not_true, Bool.not_false, true_and, and_true]
      exact pk _ (by decide +kernel) (by decide) (by decide)
    · rw [decide_eq_false h6]
      simp only [dVar, dC, dOp, dUn, dTst, dAnd, dOr, dNot, dAndV, dOrV, dNotV, dIfE, dNil, dCons, dTup, dLst, dNew, dCall, dB, dChain, dNext, dSeq, dDrop, dRet, dRetN, dIf, dAsg, gN, gSeq, gT, dPar2, dPar3, dAug, dRaise, dFor, dYes, dLc, dels, del, put, nth, startN, dFrz, dIx, dPart, dNoP, dSl, dApp, dPut, dM1, dFmt, dJs, dJoined, dIsi, dRg1, dRg2, dLsI, dTpI, dStI, dZip, dEnL, dLsRg1, dLsRg2, dNewK, dNewT, dOneT, dSetSort, dLsZip, dNewCan, oAdd, oSub, oMul, oDiv, oMod, oPow, oLt, oLe, oGt, oGe, oIs, oIsNot, oNeg, oIAdd, D.isN, bLen, bInt, bStr, bAbs, bBool, bList, bTuple, D.ty, D.isInt, D.isBool, D.isStr, D.isTup, D.isLst, List.map_cons, List.map_nil, List.length_cons, List.length_nil, List.replicate_succ, List.replicate_zero, List.cons_append, List.nil_append, Option.isSome_some, if_true, if_false, Bool.false_eq_true, reduceIte, Nat.reduceAdd, Nat.reduceSub, Bool.not_true, Bool.not_false, true_and, and_true]
      refine lift_ok hm (by decide) (by decide) fun r2 hs0 hs1 => ?_
      have hl2 : (rgD 0 r2.toNat).length = r2.toNat := rgD_length ..
      refine ⟨_, rfl, by rw [hl2]; omega, ?_⟩
      refine lc_inv (fun i acc => acc.length ≤ i ∧ acc.all (D.goodB deep) = true) _ ⟨Nat.le_refl _, rfl⟩ ?_ ?_
      · rintro i x acc hx ⟨ha, hb⟩ k1 k2 hk1 hk2
        cases d with
        | zero => omega
        | succ d =>
          simp only [dVar, dC, dOp, dUn, dTst, dAnd, dOr, dNot, dAndV, dOrV, dNotV, dIfE, dNil, dCons, dTup, dLst, dNew, dCall, dB, dChain, dNext, dSeq, dDrop, dRet, dRetN, dIf, dAsg, gN, gSeq, gT, dPar2, dPar3, dAug, dRaise, dFor, dYes, dLc, dels, del, put, nth, startN, dFrz, dIx, dPart, dNoP, dSl, dApp, dPut, dM1, dFmt, dJs, dJoined, dIsi, dRg1, dRg2, dLsI, dTpI, dStI, dZip, dEnL, dLsRg1, dLsRg2, dNewK, dNewT, dOneT, dSetSort, dLsZip, dNewCan, oAdd, oSub, oMul, oDiv, oMod, oPow, oLt, oLe, oGt, oGe, oIs, oIsNot, oNeg, oIAdd, D.isN, bLen, bInt, bStr, bAbs, bBool, bList, bTuple, D.ty, D.isInt, D.isBool, D.isStr, D.isTup, D.isLst, List.map_cons, List.map_nil, List.length_cons, List.length_nil, List.replicate_succ, List.replicate_zero, List.cons_append, List.nil_append, Option.isSome_some, if_true, if_false, Bool.false_eq_true, reduceIte, Nat.reduceAdd, Nat.reduceSub, Bool.not_true, Bool.not_false, true_and, and_true]
          have e : (deep : Int) - 1 = ((deep - 1 : Nat) : Int) := by omega
          refine ⟨p, deep - 1, by omega, hm, by rw [e], fun y hy => ?_⟩
          refine hk1 y ⟨by rw [List.length_append, List.length_singleton]; omega, ?_⟩
          rw [List.all_append, hb, List.all_cons, show deep - 1 + 1 = deep from by omega] at *
          rw [hy]; rfl
      · rintro acc ⟨ha, hb⟩
        rw [hl2] at ha
        refine lift_ok hm (by decide) (by decide) fun r3 _ _ => ?_
        dsimp only
        refine ⟨ok_int _, ok_int _, ?_⟩
        rw [eqv_int]
        have hg1 : (D.lst acc).goodB (deep + 1) = true := by rw [goodB_lst, hb, decide_eq_true (by omega)]; rfl
        have hg2 : (D.tup acc).goodB (deep + 1) = true := by rw [goodB_tup, hb, decide_eq_true (by omega)]; rfl
        by_cases h3 : r3 = 0
        · rw [decide_eq_true h3]
          simp only [dVar, dC, dOp, dUn, dTst, dAnd, dOr, dNot, dAndV, dOrV, dNotV, dIfE, dNil, dCons, dTup, dLst, dNew, dCall, dB, dChain, dNext, dSeq, dDrop, dRet, dRetN, dIf, dAsg, gN, gSeq, gT, dPar2, dPar3, dAug, dRaise, dFor, dYes, dLc, dels, del, put, nth, startN, dFrz, dIx, dPart, dNoP, dSl, dApp, dPut, dM1, dFmt, dJs, dJoined, dIsi, dRg1, dRg2, dLsI, dTpI, dStI, dZip, dEnL, dLsRg1, dLsRg2, dNewK, dNewT, dOneT, dSetSort, dLsZip, dNewCan, oAdd, oSub, oMul, oDiv, oMod, oPow, oLt, oLe, oGt, oGe, oIs, oIsNot, oNeg, oIAdd, D.isN, bLen, bInt, bStr, bAbs, bBool, bList, bTuple, D.ty, D.isInt, D.isBool, D.isStr, D.isTup, D.isLst, List.map_cons, List.map_nil, List.length_cons, List.length_nil, List.replicate_succ, List.replicate_zero, List.cons_append, List.nil_append, Option.isSome_some, if_true, if_false, Bool.false_eq_true, reduceIte, Nat.reduceAdd, Nat.reduceSub, Bool.not_true, Bool.not_false, true_and, and_true]
          exact fg_self (q _ hg1)
        · rw [decide_eq_false h3]
          simp only [dVar, dC, dOp, dUn, dTst, dAnd, dOr, dNot, dAndV, dOrV, dNotV, dIfE, dNil, dCons, dTup, dLst, dNew, dCall, dB, dChain, dNext, dSeq, dDrop, dRet, dRetN, dIf, dAsg, gN, gSeq, gT, dPar2, dPar3, dAug, dRaise, dFor, dYes, dLc, dels, del, put, nth, startN, dFrz, dIx, dPart, dNoP, dSl, dApp, dPut, dM1, dFmt, dJs, dJoined, dIsi, dRg1, dRg2, dLsI, dTpI, dStI, dZip, dEnL, dLsRg1, dLsRg2, dNewK, dNewT, dOneT, dSetSort, dLsZip, dNewCan, oAdd, oSub, oMul, oDiv, oMod, oPow, oLt, oLe, oGt, oGe, oIs, oIsNot, oNeg, oIAdd, D.isN, bLen, bInt, bStr, bAbs, bBool, bList, bTuple, D.ty, D.isInt, D.isBool, D.isStr, D.isTup, D.isLst, List.map_cons, List.map_nil, List.length_cons, List.length_nil, List.replicate_succ, List.replicate_zero, List.cons_append, List.nil_append, Option.isSome_some, if_true, if_false, Bool.false_eq_true, reduceIte, Nat.reduceAdd, Nat.reduceSub, Bool.not_true, Bool.not_false, true_and, and_true]
          exact fg_self (q _ hg2)
end Dl
namespace Dl
open PySem
/-! # texts of houses -/
/-- a list of signs cut at each c -/
def sp1 (c : Nat) : List Nat → List (List Nat)
  | [] => [[]]
  | a :: l => if a = c then [] :: sp1 c l else match sp1 c l with
    | p :: q => (a :: p) :: q
    | [] => [[a]]
theorem sp1_ne (c : Nat) : ∀ l, sp1 c l ≠ []
  | [] => by simp [sp1]
  | a :: l => by
    unfold sp1
    by_cases h : a = c
    · rw [if_pos h]; simp
    · rw [if_neg h]
      cases e : sp1 c l with
      | nil => simp
      | cons p q => simp
theorem spl_sp1 (c : Nat) : ∀ (l acc : List Nat), TL.spl [c] 0 acc l = match sp1 c l with
    | p :: q => (acc ++ p) :: q
    | [] => [acc]
  | [], acc => by simp [sp1, TL.spl]
  | a :: l, acc => by
    have hp : TL.pre [c] (a :: l) = decide (a = c) := by
      unfold TL.pre
      simp
      by_cases h : a = c
      · simp [h]
      · simp [h]
    unfold sp1
    by_cases h : a = c
    · rw [TL.spl_hit (by rw [hp]; exact decide_eq_true h), if_pos h]
      show acc :: TL.spl [c] 0 [] l = _
      rw [spl_sp1 c l []]
      cases e : sp1 c l with
      | nil => exact absurd e (sp1_ne c l)
      | cons p q => simp
    · rw [TL.spl_miss (by rw [hp]; exact decide_eq_false h), if_neg h, spl_sp1 c l]
      cases e : sp1 c l with
      | nil => exact absurd e (sp1_ne c l)
      | cons p q => simp
theorem sp1_app (c : Nat) : ∀ (a b : List Nat), c ∉ a → sp1 c (a ++ c :: b) = a :: sp1 c b
  | [], b, _ => by simp [sp1]
  | x :: a, b, h => by
    have h1 : x ≠ c := fun z => h (by rw [z]; exact List.mem_cons_self ..)
    have ih := sp1_app c a b fun z => h (List.mem_cons_of_mem _ z)
    rw [List.cons_append, sp1, if_neg h1, ih]
theorem sp1_none (c : Nat) : ∀ (a : List Nat), c ∉ a → sp1 c a = [a]
  | [], _ => rfl
  | x :: a, h => by
    have h1 : x ≠ c := fun z => h (by rw [z]; exact List.mem_cons_self ..)
    have ih := sp1_none c a fun z => h (List.mem_cons_of_mem _ z)
    rw [sp1, if_neg h1, ih]
/-- the first c -/
theorem first_of {c : Nat} : ∀ {l : List Nat}, c ∈ l → ∃ a b, l = a ++ c :: b ∧ c ∉ a
  | x :: l, h => by
    by_cases hx : x = c
    · exact ⟨[], l, by rw [hx]; rfl, by simp⟩
    · obtain ⟨a, b, e, ha⟩ := first_of (l := l) ((List.mem_cons.mp h).resolve_left fun z => hx z.symm)
      exact ⟨x :: a, b, by rw [e]; rfl, fun z => (List.mem_cons.mp z).elim (fun q => hx q.symm) ha⟩
theorem sp1_two {c : Nat} {l a b : List Nat} : sp1 c l = [a, b] ↔ l = a ++ c :: b ∧ c ∉ a ∧ c ∉ b := by
  constructor
  · intro h
    by_cases hc : c ∈ l
    · obtain ⟨x, y, rfl, hx⟩ := first_of hc
      rw [sp1_app c x y hx] at h
      obtain ⟨rfl, h2⟩ := List.cons.inj h
      by_cases hy : c ∈ y
      · obtain ⟨u, v, rfl, hu⟩ := first_of hy
        rw [sp1_app c u v hu] at h2
        obtain ⟨_, h3⟩ := List.cons.inj h2
        exact absurd h3 (sp1_ne c v)
      · rw [sp1_none c y hy] at h2
        obtain ⟨rfl, _⟩ := List.cons.inj h2
        exact ⟨rfl, hx, hy⟩
    · rw [sp1_none c l hc] at h
      cases h
  · rintro ⟨rfl, ha, hb⟩
    rw [sp1_app c a b ha, sp1_none c b hb]
theorem sp1_le (c : Nat) : ∀ (l p : List Nat), p ∈ sp1 c l → p.length ≤ l.length
  | [], p, h => by simp [sp1] at h; subst h; simp
  | x :: l, p, h => by
    unfold sp1 at h
    by_cases hx : x = c
    · rw [if_pos hx] at h
      rcases List.mem_cons.mp h with e | e
      · subst e; simp
      · have := sp1_le c l p e
        rw [List.length_cons]; omega
    · rw [if_neg hx] at h
      cases e : sp1 c l with
      | nil => exact absurd e (sp1_ne c l)
      | cons u v =>
        rw [e] at h
        rcases List.mem_cons.mp h with z | z
        · subst z
          have := sp1_le c l u (by rw [e]; exact List.mem_cons_self ..)
          rw [List.length_cons, List.length_cons]; omega
        · have := sp1_le c l p (by rw [e]; exact List.mem_cons_of_mem _ z)
          rw [List.length_cons]; omega
theorem S_list (l : List Nat) : (SX.S l).cps.toList = l := rfl
theorem S_of (z : Str) : SX.S z.cps.toList = z := by cases z; rfl
theorem split1 (z : Str) {c : Nat} (hc : c < 256) : Txt.split z ⟨#[c]⟩ = (sp1 c z.cps.toList).map SX.S := by
  have h := SX.split_S (a := z.cps.toList) (b := [c]) (by simp) (by simp [hc])
  rw [S_of] at h
  rw [show (⟨#[c]⟩ : Str) = SX.S [c] from rfl, h, spl_sp1]
  cases e : sp1 c z.cps.toList with
  | nil => exact absurd e (sp1_ne c _)
  | cons p q => rfl
/-- what house_in makes -/
def rdL (l : List Nat) : D := match sp1 47 l with
  | [a, b] => match sp1 42 b with
    | [r, e] => if e = [49] ∨ e = [50] ∨ e = [51] then .tup [.str (SX.S a), .str (SX.S r), .int ((e.headD 0 - 48 : Nat) : Int)] else .tup []
    | _ => .tup []
  | _ => .tup []
theorem S_inj {a b : List Nat} : SX.S a = SX.S b ↔ a = b := by
  constructor
  · intro h
    have := congrArg (fun z : Str => z.cps.toList) h
    exact this
  · intro h; rw [h]
theorem eqv_str (x y : Str) : (D.str x).eqv (.str y) = decide (x = y) := by
  simp only [D.eqv, D.py, PyData.eqv]
  by_cases h : x = y
  · rw [decide_eq_true h, h]; exact beq_self_eq_true y
  · rw [decide_eq_false h]; exact beq_eq_false_iff_ne.mpr h
theorem atI_last {α : Type} {xs : List α} (h : xs ≠ []) : ∃ d, d ∈ xs ∧ L2.atI xs (-1) = some d := by
  have hl : 0 < xs.length := List.length_pos_iff.mpr h
  refine ⟨xs[xs.length - 1], List.getElem_mem _, ?_⟩
  unfold L2.atI L2.ixN
  rw [if_neg (by decide)]
  have e : ((-1 : Int) + (xs.length : Nat)) = ((xs.length - 1 : Nat) : Int) := by omega
  simp only [e]
  rw [if_pos (by omega)]
  show xs[((xs.length - 1 : Nat) : Int).toNat]? = _
  rw [Int.toNat_natCast, List.getElem?_eq_getElem (by omega)]
/-! ### house_in, read_house -/
def S_house_in : DSp := fun ds M Q R => ∃ z : Str, z.length ≤ 1000 ∧ ds = [.str z] ∧ Q (rdL z.cps.toList) M
def t_house_in : DTS := dSeq (dAsg (dM1 mSplit (dVar 0) (dC (.str ("/" : Str)))) (gN 1)) (dSeq (dAsg (dM1 mSplit (dOp dIx (dVar 1) (dUn oNeg (dC (.int 1)))) (dC (.str ("*" : Str)))) (gN 2)) (dSeq (dIf (dOr (dTst (dOp oNe (dB bLen (dCons (dVar 1) (dNil))) (dC (.int 2)))) (dOr (dTst (dOp oNe (dB bLen (dCons (dVar 2) (dNil))) (dC (.int 2)))) (dTst (dOp (qIn true) (dOp dIx (dVar 2) (dC (.int 1))) (dTup (dCons (dC (.str ("1" : Str))) (dCons (dC (.str ("2" : Str))) (dCons (dC (.str ("3" : Str))) (dNil))))))))) (dRet (dTup (dNil))) (dNext)) (dRet (dTup (dCons (dOp dIx (dVar 1) (dC (.int 0))) (dCons (dOp dIx (dVar 2) (dC (.int 0))) (dCons (dB bInt (dCons (dOp dIx (dVar 2) (dC (.int 1))) (dNil))) (dNil))))))))
theorem any3 (e : List Nat) : (D.str (SX.S e)).any [.str ("1" : Str), .str ("2" : Str), .str ("3" : Str)] = decide (e = [49] ∨ e = [50] ∨ e = [51]) := by
  have h1 : ("1" : Str) = SX.S [49] := rfl
  have h2 : ("2" : Str) = SX.S [50] := rfl
  have h3 : ("3" : Str) = SX.S [51] := rfl
  simp only [D.any, eqv_str, h1, h2, h3, S_inj, Bool.or_false]
  by_cases a : e = [49]
  · subst a; decide
  · by_cases b : e = [50]
    · subst b; decide
    · by_cases c : e = [51]
      · subst c; decide
      · have a' : ¬ [49] = e := fun z => a z.symm
        have b' : ¬ [50] = e := fun z => b z.symm
        have c' : ¬ [51] = e := fun z => c z.symm
        simp [a, b, c, a', b', c']
theorem rdL_no {l : List Nat} (h : ¬ (sp1 47 l).length = 2) : rdL l = .tup [] := by
  unfold rdL
  split
  · rename_i a b e; rw [e] at h; exact absurd rfl h
  · rfl
theorem rdL_ab {l a b : List Nat} (h : sp1 47 l = [a, b]) : rdL l = match sp1 42 b with
    | [r, e] => if e = [49] ∨ e = [50] ∨ e = [51] then .tup [.str (SX.S a), .str (SX.S r), .int ((e.headD 0 - 48 : Nat) : Int)] else .tup []
    | _ => .tup [] := by
  unfold rdL
  rw [h]
theorem str_len (z : Str) : z.length = z.cps.toList.length := by simp [Str.length]
theorem S_len (l : List Nat) : (SX.S l).length = l.length := by simp [Str.length]
theorem int_e {e : List Nat} (h : e = [49] ∨ e = [50] ∨ e = [51]) : PySem.intText? (SX.S e) = some ((e.headD 0 - 48 : Nat) : Int) := by
  rcases h with rfl | rfl | rfl
  · exact int_fg (d := 1) (by decide)
  · exact int_fg (d := 2) (by decide)
  · exact int_fg (d := 3) (by decide)
theorem kp_house_in : Keeps S_house_in 3 t_house_in := by
  rintro ds M Q R ⟨z, hz, rfl, q⟩
  simp only [t_house_in, dVar, dC, dOp, dUn, dTst, dAnd, dOr, dNot, dAndV, dOrV, dNotV, dIfE, dNil, dCons, dTup, dLst, dNew, dCall, dB, dChain, dNext, dSeq, dDrop, dRet, dRetN, dIf, dAsg, gN, gSeq, gT, dPar2, dPar3, dAug, dRaise, dFor, dYes, dLc, dels, del, put, nth, startN, dFrz, dIx, dPart, dNoP, dSl, dApp, dPut, dM1, dFmt, dJs, dJoined, dIsi, dRg1, dRg2, dLsI, dTpI, dStI, dZip, dEnL, dLsRg1, dLsRg2, dNewK, dNewT, dOneT, dSetSort, dLsZip, dNewCan, oAdd, oSub, oMul, oDiv, oMod, oPow, oLt, oLe, oGt, oGe, oIs, oIsNot, oNeg, oIAdd, D.isN, bLen, bInt, bStr, bAbs, bBool, bList, bTuple, D.ty, D.isInt, D.isBool, D.isStr, D.isTup, D.isLst, List.map_cons, List.map_nil, List.length_cons, List.length_nil, List.replicate_succ, List.replicate_zero, List.cons_append, List.nil_append, Option.isSome_some, if_true, if_false, Bool.false_eq_true, reduceIte, Nat.reduceAdd, Nat.reduceSub, Bool.not_true, Bool.not_false, true_and, and_true, mSplit]
  refine ⟨_, rfl, _, rfl, rfl, by omega, ?_⟩
  rw [show ("/" : Str) = ⟨#[47]⟩ from rfl, show ("*" : Str) = ⟨#[42]⟩ from rfl, split1 z (c := 47) (by decide), List.map_map]
  obtain ⟨d, hd, hl⟩ := atI_last (xs := (sp1 47 z.cps.toList).map (D.str ∘ SX.S)) (by simp [sp1_ne])
  obtain ⟨b, hb, rfl⟩ := List.mem_map.mp hd
  have hbl := sp1_le 47 _ b hb
  rw [← str_len] at hbl
  refine ⟨_, _, rfl, hl, SX.S b, rfl, _, rfl, rfl, by rw [S_len]; omega, ok_int _, ok_int _, ?_⟩
  rw [split1 _ (c := 42) (by decide), List.map_map, eqv_int, List.length_map, S_list]
  by_cases h2 : (sp1 47 z.cps.toList).length = 2
  · obtain ⟨x, y, hxy⟩ : ∃ x y, sp1 47 z.cps.toList = [x, y] := by
      match sp1 47 z.cps.toList, h2 with
      | [x, y], _ => exact ⟨x, y, rfl⟩
    have eb : b = y := by
      rw [hxy] at hl
      have h3 : L2.atI ([x, y].map (D.str ∘ SX.S)) (-1) = some (D.str (SX.S y)) := rfl
      rw [h3] at hl
      have := D.str.inj (Option.some.inj hl)
      exact (S_inj.mp this).symm
    subst eb
    rw [rdL_ab hxy] at q
    rw [hxy]
    rw [decide_eq_true (by simp)]
    simp only [dVar, dC, dOp, dUn, dTst, dAnd, dOr, dNot, dAndV, dOrV, dNotV, dIfE, dNil, dCons, dTup, dLst, dNew, dCall, dB, dChain, dNext, dSeq, dDrop, dRet, dRetN, dIf, dAsg, gN, gSeq, gT, dPar2, dPar3, dAug, dRaise, dFor, dYes, dLc, dels, del, put, nth, startN, dFrz, dIx, dPart, dNoP, dSl, dApp, dPut, dM1, dFmt, dJs, dJoined, dIsi, dRg1, dRg2, dLsI, dTpI, dStI, dZip, dEnL, dLsRg1, dLsRg2, dNewK, dNewT, dOneT, dSetSort, dLsZip, dNewCan, oAdd, oSub, oMul, oDiv, oMod, oPow, oLt, oLe, oGt, oGe, oIs, oIsNot, oNeg, oIAdd, D.isN, bLen, bInt, bStr, bAbs, bBool, bList, bTuple, D.ty, D.isInt, D.isBool, D.isStr, D.isTup, D.isLst, List.map_cons, List.map_nil, List.length_cons, List.length_nil, List.replicate_succ, List.replicate_zero, List.cons_append, List.nil_append, Option.isSome_some, if_true, if_false, Bool.false_eq_true, reduceIte, Nat.reduceAdd, Nat.reduceSub, Bool.not_true, Bool.not_false, true_and, and_true]
    refine ⟨ok_int _, ok_int _, ?_⟩
    rw [eqv_int]
    by_cases h3 : (sp1 42 b).length = 2
    · obtain ⟨r, e, hre⟩ : ∃ r e, sp1 42 b = [r, e] := by
        match sp1 42 b, h3 with
        | [r, e], _ => exact ⟨r, e, rfl⟩
      rw [hre] at q ⊢
      rw [decide_eq_true (by simp)]
      simp only [dVar, dC, dOp, dUn, dTst, dAnd, dOr, dNot, dAndV, dOrV, dNotV, dIfE, dNil, dCons, dTup, dLst, dNew, dCall, dB, dChain, dNext, dSeq, dDrop, dRet, dRetN, dIf, dAsg, gN, gSeq, gT, dPar2, dPar3, dAug, dRaise, dFor, dYes, dLc, dels, del, put, nth, startN, dFrz, dIx, dPart, dNoP, dSl, dApp, dPut, dM1, dFmt, dJs, dJoined, dIsi, dRg1, dRg2, dLsI, dTpI, dStI, dZip, dEnL, dLsRg1, dLsRg2, dNewK, dNewT, dOneT, dSetSort, dLsZip, dNewCan, oAdd, oSub, oMul, oDiv, oMod, oPow, oLt, oLe, oGt, oGe, oIs, oIsNot, oNeg, oIAdd, D.isN, bLen, bInt, bStr, bAbs, bBool, bList, bTuple, D.ty, D.isInt, D.isBool, D.isStr, D.isTup, D.isLst, List.map_cons, List.map_nil, List.length_cons, List.length_nil, List.replicate_succ, List.replicate_zero, List.cons_append, List.nil_append, Option.isSome_some, if_true, if_false, Bool.false_eq_true, reduceIte, Nat.reduceAdd, Nat.reduceSub, Bool.not_true, Bool.not_false, true_and, and_true]
      refine ⟨_, _, rfl, rfl, by decide, ⟨rfl, rfl⟩, ?_⟩
      simp only [Function.comp, any3]
      by_cases he : e = [49] ∨ e = [50] ∨ e = [51]
      · simp only [decide_eq_true he]
        simp only [he] at q
        simp only [Bool.xor_true, dVar, dC, dOp, dUn, dTst, dAnd, dOr, dNot, dAndV, dOrV, dNotV, dIfE, dNil, dCons, dTup, dLst, dNew, dCall, dB, dChain, dNext, dSeq, dDrop, dRet, dRetN, dIf, dAsg, gN, gSeq, gT, dPar2, dPar3, dAug, dRaise, dFor, dYes, dLc, dels, del, put, nth, startN, dFrz, dIx, dPart, dNoP, dSl, dApp, dPut, dM1, dFmt, dJs, dJoined, dIsi, dRg1, dRg2, dLsI, dTpI, dStI, dZip, dEnL, dLsRg1, dLsRg2, dNewK, dNewT, dOneT, dSetSort, dLsZip, dNewCan, oAdd, oSub, oMul, oDiv, oMod, oPow, oLt, oLe, oGt, oGe, oIs, oIsNot, oNeg, oIAdd, D.isN, bLen, bInt, bStr, bAbs, bBool, bList, bTuple, D.ty, D.isInt, D.isBool, D.isStr, D.isTup, D.isLst, List.map_cons, List.map_nil, List.length_cons, List.length_nil, List.replicate_succ, List.replicate_zero, List.cons_append, List.nil_append, Option.isSome_some, if_true, if_false, Bool.false_eq_true, reduceIte, Nat.reduceAdd, Nat.reduceSub, Bool.not_true, Bool.not_false, true_and, and_true]
        refine ⟨_, _, rfl, rfl, _, _, rfl, rfl, _, _, rfl, rfl, _, int_e he, ?_, by decide, fg_self q⟩
        rcases he with e1 | e1 | e1 <;> (rw [e1]; decide)
      · simp only [decide_eq_false he]
        simp only [he] at q
        simp only [Bool.xor_false, dVar, dC, dOp, dUn, dTst, dAnd, dOr, dNot, dAndV, dOrV, dNotV, dIfE, dNil, dCons, dTup, dLst, dNew, dCall, dB, dChain, dNext, dSeq, dDrop, dRet, dRetN, dIf, dAsg, gN, gSeq, gT, dPar2, dPar3, dAug, dRaise, dFor, dYes, dLc, dels, del, put, nth, startN, dFrz, dIx, dPart, dNoP, dSl, dApp, dPut, dM1, dFmt, dJs, dJoined, dIsi, dRg1, dRg2, dLsI, dTpI, dStI, dZip, dEnL, dLsRg1, dLsRg2, dNewK, dNewT, dOneT, dSetSort, dLsZip, dNewCan, oAdd, oSub, oMul, oDiv, oMod, oPow, oLt, oLe, oGt, oGe, oIs, oIsNot, oNeg, oIAdd, D.isN, bLen, bInt, bStr, bAbs, bBool, bList, bTuple, D.ty, D.isInt, D.isBool, D.isStr, D.isTup, D.isLst, List.map_cons, List.map_nil, List.length_cons, List.length_nil, List.replicate_succ, List.replicate_zero, List.cons_append, List.nil_append, Option.isSome_some, if_true, if_false, Bool.false_eq_true, reduceIte, Nat.reduceAdd, Nat.reduceSub, Bool.not_true, Bool.not_false, true_and, and_true]
        exact ⟨by decide, fg_self q⟩
    · rw [decide_eq_false (show ¬ (((sp1 42 b).length : Nat) : Int) = 2 from by omega)]
      simp only [dVar, dC, dOp, dUn, dTst, dAnd, dOr, dNot, dAndV, dOrV, dNotV, dIfE, dNil, dCons, dTup, dLst, dNew, dCall, dB, dChain, dNext, dSeq, dDrop, dRet, dRetN, dIf, dAsg, gN, gSeq, gT, dPar2, dPar3, dAug, dRaise, dFor, dYes, dLc, dels, del, put, nth, startN, dFrz, dIx, dPart, dNoP, dSl, dApp, dPut, dM1, dFmt, dJs, dJoined, dIsi, dRg1, dRg2, dLsI, dTpI, dStI, dZip, dEnL, dLsRg1, dLsRg2, dNewK, dNewT, dOneT, dSetSort, dLsZip, dNewCan, oAdd, oSub, oMul, oDiv, oMod, oPow, oLt, oLe, oGt, oGe, oIs, oIsNot, oNeg, oIAdd, D.isN, bLen, bInt, bStr, bAbs, bBool, bList, bTuple, D.ty, D.isInt, D.isBool, D.isStr, D.isTup, D.isLst, List.map_cons, List.map_nil, List.length_cons, List.length_nil, List.replicate_succ, List.replicate_zero, List.cons_append, List.nil_append, Option.isSome_some, if_true, if_false, Bool.false_eq_true, reduceIte, Nat.reduceAdd, Nat.reduceSub, Bool.not_true, Bool.not_false, true_and, and_true]
      have q' : Q (.tup []) M := by
        have e2 : (match sp1 42 b with
        | [r, e] => if e = [49] ∨ e = [50] ∨ e = [51] then D.tup [.str (SX.S x), .str (SX.S r), .int ((e.headD 0 - 48 : Nat) : Int)] else .tup []
        | _ => .tup []) = .tup [] := by
          split
          · rename_i a b e; rw [e] at h3; exact absurd rfl h3
          · rfl
        rw [e2] at q; exact q
      exact ⟨by decide, fg_self q'⟩
  · rw [rdL_no h2] at q
    rw [decide_eq_false (show ¬ ((((sp1 47 z.cps.toList).map (D.str ∘ SX.S)).length : Nat) : Int) = 2 from by rw [List.length_map]; omega)]
    simp only [dVar, dC, dOp, dUn, dTst, dAnd, dOr, dNot, dAndV, dOrV, dNotV, dIfE, dNil, dCons, dTup, dLst, dNew, dCall, dB, dChain, dNext, dSeq, dDrop, dRet, dRetN, dIf, dAsg, gN, gSeq, gT, dPar2, dPar3, dAug, dRaise, dFor, dYes, dLc, dels, del, put, nth, startN, dFrz, dIx, dPart, dNoP, dSl, dApp, dPut, dM1, dFmt, dJs, dJoined, dIsi, dRg1, dRg2, dLsI, dTpI, dStI, dZip, dEnL, dLsRg1, dLsRg2, dNewK, dNewT, dOneT, dSetSort, dLsZip, dNewCan, oAdd, oSub, oMul, oDiv, oMod, oPow, oLt, oLe, oGt, oGe, oIs, oIsNot, oNeg, oIAdd, D.isN, bLen, bInt, bStr, bAbs, bBool, bList, bTuple, D.ty, D.isInt, D.isBool, D.isStr, D.isTup, D.isLst, List.map_cons, List.map_nil, List.length_cons, List.length_nil, List.replicate_succ, List.replicate_zero, List.cons_append, List.nil_append, Option.isSome_some, if_true, if_false, Bool.false_eq_true, reduceIte, Nat.reduceAdd, Nat.reduceSub, Bool.not_true, Bool.not_false, true_and, and_true]
    exact ⟨by decide, fg_self q⟩
end Dl
namespace Dl
open PySem
/-! # the laws' own definitions of houses and calendars -/
def S_law_int : DSp := fun ds M Q R => ∃ (x : D) (lo hi : Int), x.ty.isSome = true ∧ ds = [x, .int lo, .int hi] ∧ Q (.bl (x.inB lo hi)) M
def t_law_int : DTS := dRet (dAndV (dIsi D.isInt (dVar 0)) (dAndV (dNotV (dIsi D.isBool (dVar 0))) (dChain oLe oLe (dVar 1) (dVar 0) (dVar 2))))
theorem kp_law_int : Keeps S_law_int 3 t_law_int := by
  rintro ds M Q R ⟨x, lo, hi, ht, rfl, q⟩
  cases x <;> simp only [t_law_int, dVar, dC, dOp, dUn, dTst, dAnd, dOr, dNot, dAndV, dOrV, dNotV, dIfE, dNil, dCons, dTup, dLst, dNew, dCall, dB, dChain, dNext, dSeq, dDrop, dRet, dRetN, dIf, dAsg, gN, gSeq, gT, dPar2, dPar3, dAug, dRaise, dFor, dYes, dLc, dels, del, put, nth, startN, dFrz, dIx, dPart, dNoP, dSl, dApp, dPut, dM1, dFmt, dJs, dJoined, dIsi, dRg1, dRg2, dLsI, dTpI, dStI, dZip, dEnL, dLsRg1, dLsRg2, dNewK, dNewT, dOneT, dSetSort, dLsZip, dNewCan, oAdd, oSub, oMul, oDiv, oMod, oPow, oLt, oLe, oGt, oGe, oIs, oIsNot, oNeg, oIAdd, D.isN, bLen, bInt, bStr, bAbs, bBool, bList, bTuple, D.ty, D.isInt, D.isBool, D.isStr, D.isTup, D.isLst, List.map_cons, List.map_nil, List.length_cons, List.length_nil, List.replicate_succ, List.replicate_zero, List.cons_append, List.nil_append, Option.isSome_some, if_true, if_false, Bool.false_eq_true, reduceIte, Nat.reduceAdd, Nat.reduceSub, Bool.not_true, Bool.not_false, true_and, and_true, D.inB] at ht q ⊢
  all_goals first | exact fg_self q | (exact absurd ht (by decide)) | skip
  rename_i i
  by_cases h1 : lo ≤ i
  · rw [decide_eq_true h1] at q ⊢; rw [Bool.true_and] at q; rw [if_pos rfl]; exact fg_self q
  · rw [decide_eq_false h1] at q ⊢; rw [Bool.false_and] at q; rw [if_neg Bool.false_ne_true]; exact fg_self q
theorem eqv_nil (ds : List D) : (D.lst ds).eqv (.lst []) = ds.isEmpty := by
  cases ds <;> simp [D.eqv, D.py, D.pyL, PyData.eqv, PyData.eqvAll]
theorem ok_nil : (D.lst []).ok := by unfold D.ok; simp only [D.py, D.pyL]; decide +kernel
theorem good_ch {z : Str} {n : Nat} (h : (D.str z).goodB n = true) : (D.lst (chD z)).goodB 1 = true := by
  have h' : (decide (z.length ≤ 1000) && z.cps.all (· < 0x110000)) = true := by cases n <;> exact h
  rw [Bool.and_eq_true] at h'
  rw [goodB_lst, Bool.and_eq_true]
  have hl : (chD z).length = z.length := by simp [chD, Str.length]
  refine ⟨by rw [hl]; exact h'.1, List.all_eq_true.mpr fun d hd => ?_⟩
  obtain ⟨c, hc, rfl⟩ := List.mem_map.mp hd
  have hlt : c < 0x110000 := by
    have := Array.all_eq_true_iff_forall_mem.mp h'.2 c (by simpa using hc)
    exact of_decide_eq_true this
  show (decide ((⟨#[c]⟩ : Str).length ≤ 1000) && (#[c] : Array Nat).all (· < 0x110000)) = true
  simp [Str.length, hlt]
theorem good_filter {n : Nat} {ds : List D} {c : D → Bool} (h : (D.lst ds).goodB (n + 1) = true) : (D.lst (ds.filter c)).goodB (n + 1) = true := by
  rw [goodB_lst, Bool.and_eq_true] at h ⊢
  have h1 := of_decide_eq_true h.1
  exact ⟨decide_eq_true (Nat.le_trans (List.length_filter_le ..) h1), List.all_eq_true.mpr fun d hd => List.all_eq_true.mp h.2 d (List.mem_filter.mp hd).1⟩
theorem filter_empty {α : Type} (l : List α) (c : α → Bool) : (l.filter c).isEmpty = l.all fun x => !c x := by
  induction l with
  | nil => rfl
  | cons a l ih =>
    by_cases h : c a = true
    · rw [List.filter_cons_of_pos h, List.all_cons, h]; rfl
    · rw [List.filter_cons_of_neg h, List.all_cons, ih]; simp [h]
/-- ascending, by places -/
theorem ascB_at : ∀ l : List Nat, ascB l = (List.range (l.length - 1)).all fun i => decide (l.getD i 0 < l.getD (i + 1) 0)
  | [] => rfl
  | [a] => rfl
  | a :: b :: l => by
    have ih := ascB_at (b :: l)
    have e : (a :: b :: l).length - 1 = ((b :: l).length - 1) + 1 := by simp
    rw [e, List.range_succ_eq_map, List.all_cons, List.all_map]
    show (decide (a < b) && ascB (b :: l)) = _
    rw [ih]; rfl
theorem ascI_at : ∀ l : List Int, ascI l = (List.range (l.length - 1)).all fun i => decide (l.getD i 0 < l.getD (i + 1) 0)
  | [] => rfl
  | [a] => rfl
  | a :: b :: l => by
    have ih := ascI_at (b :: l)
    have e : (a :: b :: l).length - 1 = ((b :: l).length - 1) + 1 := by simp
    rw [e, List.range_succ_eq_map, List.all_cons, List.all_map]
    show (decide (a < b) && ascI (b :: l)) = _
    rw [ih]; rfl
theorem rg1_all (n : Nat) (c : Int → Bool) : ((rgD 1 n).all fun d => c d.iv) = (List.range n).all fun i => c ((i : Int) + 1) := by
  unfold rgD
  rw [List.all_map]
  congr 1
  funext i
  show c ((1 : Int) + (i : Nat)) = _
  rw [Int.add_comm]
def wkAt (l : List Nat) (i : Int) : Bool := !decide (l.getD (i.toNat - 1) 0 < l.getD i.toNat 0)
theorem lt_signs (a b : Nat) : decide ((⟨#[a]⟩ : Str).cps.toList < (⟨#[b]⟩ : Str).cps.toList) = decide (a < b) := lt_one a b
def S_law_good_week : DSp := fun ds M Q R => ∃ (x : D) (n : Nat), x.goodB n = true ∧ ds = [x] ∧ Q (.bl x.wkB) M
def t_law_good_week : DTS := dSeq (dIf (dOr (dNot (dTst (dIsi D.isStr (dVar 0)))) (dTst (dOp oNe (dLc [1] (dStI (dVar 0)) (gN 1) (dTst (dOp (qIn true) (dVar 1) (dC (.str ("0123456" : Str))))) (dVar 1)) (dLst (dNil))))) (dRet (dC (.bl false))) (dNext)) (dRet (dOp oEq (dLc [2] (dRg2 (dC (.int 1)) (dB bLen (dCons (dVar 0) (dNil)))) (gN 2) (dTst (dOp oLe (dOp dIx (dVar 0) (dVar 2)) (dOp dIx (dVar 0) (dOp oSub (dVar 2) (dC (.int 1)))))) (dVar 2)) (dLst (dNil))))
theorem getD_of {α : Type} {l : List α} {i : Nat} {d a : α} (h : l[i]? = some a) : l.getD i d = a := by
  rw [List.getD_eq_getElem?_getD, h]; rfl
theorem kp_law_good_week : Keeps S_law_good_week 3 t_law_good_week := by
  rintro ds M Q R ⟨x, n, hg, rfl, q⟩
  have hf := good_fine hg
  cases x with
  | str z =>
    have hz := hf.2 z rfl
    have hlen : (chD z).length ≤ 100000 := by simpa [chD, Str.length] using hz
    have hch := good_ch hg
    simp only [t_law_good_week, dVar, dC, dOp, dUn, dTst, dAnd, dOr, dNot, dAndV, dOrV, dNotV, dIfE, dNil, dCons, dTup, dLst, dNew, dCall, dB, dChain, dNext, dSeq, dDrop, dRet, dRetN, dIf, dAsg, gN, gSeq, gT, dPar2, dPar3, dAug, dRaise, dFor, dYes, dLc, dels, del, put, nth, startN, dFrz, dIx, dPart, dNoP, dSl, dApp, dPut, dM1, dFmt, dJs, dJoined, dIsi, dRg1, dRg2, dLsI, dTpI, dStI, dZip, dEnL, dLsRg1, dLsRg2, dNewK, dNewT, dOneT, dSetSort, dLsZip, dNewCan, oAdd, oSub, oMul, oDiv, oMod, oPow, oLt, oLe, oGt, oGe, oIs, oIsNot, oNeg, oIAdd, D.isN, bLen, bInt, bStr, bAbs, bBool, bList, bTuple, D.ty, D.isInt, D.isBool, D.isStr, D.isTup, D.isLst, List.map_cons, List.map_nil, List.length_cons, List.length_nil, List.replicate_succ, List.replicate_zero, List.cons_append, List.nil_append, Option.isSome_some, if_true, if_false, Bool.false_eq_true, reduceIte, Nat.reduceAdd, Nat.reduceSub, Bool.not_true, Bool.not_false, true_and, and_true]
    refine ⟨z, rfl, hlen, lc_pure (fun d => !decide (d.sg ∈ figs)) (fun d => d) _ [] (fun d hd k1 k2 h1 h2 => ?_) ?_⟩
    · obtain ⟨c, hc, rfl⟩ := List.mem_map.mp hd
      simp only [dVar, dC, dOp, dUn, dTst, dAnd, dOr, dNot, dAndV, dOrV, dNotV, dIfE, dNil, dCons, dTup, dLst, dNew, dCall, dB, dChain, dNext, dSeq, dDrop, dRet, dRetN, dIf, dAsg, gN, gSeq, gT, dPar2, dPar3, dAug, dRaise, dFor, dYes, dLc, dels, del, put, nth, startN, dFrz, dIx, dPart, dNoP, dSl, dApp, dPut, dM1, dFmt, dJs, dJoined, dIsi, dRg1, dRg2, dLsI, dTpI, dStI, dZip, dEnL, dLsRg1, dLsRg2, dNewK, dNewT, dOneT, dSetSort, dLsZip, dNewCan, oAdd, oSub, oMul, oDiv, oMod, oPow, oLt, oLe, oGt, oGe, oIs, oIsNot, oNeg, oIAdd, D.isN, bLen, bInt, bStr, bAbs, bBool, bList, bTuple, D.ty, D.isInt, D.isBool, D.isStr, D.isTup, D.isLst, List.map_cons, List.map_nil, List.length_cons, List.length_nil, List.replicate_succ, List.replicate_zero, List.cons_append, List.nil_append, Option.isSome_some, if_true, if_false, Bool.false_eq_true, reduceIte, Nat.reduceAdd, Nat.reduceSub, Bool.not_true, Bool.not_false, true_and, and_true]
      refine str_in c _ _ _ _ ?_
      rw [xort]
      rw [sg_one] at h1 h2
      change (decide (c ∈ figs)).not = true → _ at h1
      by_cases hcf : c ∈ figs
      · rw [decide_eq_true hcf] at h2
        have e : decide (c ∈ ("0123456" : Str).cps.toList) = true := decide_eq_true hcf
        rw [e]; exact h2 rfl
      · rw [decide_eq_false hcf] at h1
        have e : decide (c ∈ ("0123456" : Str).cps.toList) = false := decide_eq_false hcf
        rw [e]; exact h1 rfl
    · rw [List.nil_append, List.map_id']
      have hok := good_ok (good_filter (c := fun d => !decide (d.sg ∈ figs)) hch) (by decide)
      refine ⟨by decide, hok, ok_nil, ?_⟩
      rw [eqv_nil, filter_empty]
      have e : ((chD z).all fun x => !!decide (x.sg ∈ figs)) = z.cps.toList.all (fun c => decide (c ∈ figs)) := by
        unfold chD; rw [List.all_map]
        congr 1
        funext c
        simp only [Function.comp, sg_one, Bool.not_not]
      rw [e]
      have q0 : Q (.bl ((z.cps.toList.all fun c => decide (c ∈ figs)) && ascB z.cps.toList)) M := q
      clear q; have q := q0; clear q0
      by_cases ha : z.cps.toList.all (fun c => decide (c ∈ figs)) = true
      · rw [ha] at q ⊢
        rw [Bool.true_and] at q
        simp only [dVar, dC, dOp, dUn, dTst, dAnd, dOr, dNot, dAndV, dOrV, dNotV, dIfE, dNil, dCons, dTup, dLst, dNew, dCall, dB, dChain, dNext, dSeq, dDrop, dRet, dRetN, dIf, dAsg, gN, gSeq, gT, dPar2, dPar3, dAug, dRaise, dFor, dYes, dLc, dels, del, put, nth, startN, dFrz, dIx, dPart, dNoP, dSl, dApp, dPut, dM1, dFmt, dJs, dJoined, dIsi, dRg1, dRg2, dLsI, dTpI, dStI, dZip, dEnL, dLsRg1, dLsRg2, dNewK, dNewT, dOneT, dSetSort, dLsZip, dNewCan, oAdd, oSub, oMul, oDiv, oMod, oPow, oLt, oLe, oGt, oGe, oIs, oIsNot, oNeg, oIAdd, D.isN, bLen, bInt, bStr, bAbs, bBool, bList, bTuple, D.ty, D.isInt, D.isBool, D.isStr, D.isTup, D.isLst, List.map_cons, List.map_nil, List.length_cons, List.length_nil, List.replicate_succ, List.replicate_zero, List.cons_append, List.nil_append, Option.isSome_some, if_true, if_false, Bool.false_eq_true, reduceIte, Nat.reduceAdd, Nat.reduceSub, Bool.not_true, Bool.not_false, true_and, and_true]
        refine ⟨hz, _, _, rfl, rfl, by rw [rgD_length]; omega, ?_⟩
        have hn : ((z.length : Nat) - 1 : Int).toNat = z.length - 1 := by omega
        rw [hn]
        refine lc_pure (fun d => wkAt z.cps.toList d.iv) (fun d => d) _ [] (fun d hd k1 k2 h1 h2 => ?_) ?_
        · obtain ⟨i, hi, rfl⟩ := List.mem_map.mp hd
          have hi' := List.mem_range.mp hi
          rw [str_len] at hi'
          have e1 : ∃ a, z.cps.toList[i + 1]? = some a := ⟨_, List.getElem?_eq_getElem (by omega)⟩
          have e0 : ∃ a, z.cps.toList[i]? = some a := ⟨_, List.getElem?_eq_getElem (by omega)⟩
          obtain ⟨a, ha1⟩ := e1
          obtain ⟨b, hb1⟩ := e0
          simp only [dVar, dC, dOp, dUn, dTst, dAnd, dOr, dNot, dAndV, dOrV, dNotV, dIfE, dNil, dCons, dTup, dLst, dNew, dCall, dB, dChain, dNext, dSeq, dDrop, dRet, dRetN, dIf, dAsg, gN, gSeq, gT, dPar2, dPar3, dAug, dRaise, dFor, dYes, dLc, dels, del, put, nth, startN, dFrz, dIx, dPart, dNoP, dSl, dApp, dPut, dM1, dFmt, dJs, dJoined, dIsi, dRg1, dRg2, dLsI, dTpI, dStI, dZip, dEnL, dLsRg1, dLsRg2, dNewK, dNewT, dOneT, dSetSort, dLsZip, dNewCan, oAdd, oSub, oMul, oDiv, oMod, oPow, oLt, oLe, oGt, oGe, oIs, oIsNot, oNeg, oIAdd, D.isN, bLen, bInt, bStr, bAbs, bBool, bList, bTuple, D.ty, D.isInt, D.isBool, D.isStr, D.isTup, D.isLst, List.map_cons, List.map_nil, List.length_cons, List.length_nil, List.replicate_succ, List.replicate_zero, List.cons_append, List.nil_append, Option.isSome_some, if_true, if_false, Bool.false_eq_true, reduceIte, Nat.reduceAdd, Nat.reduceSub, Bool.not_true, Bool.not_false, true_and, and_true]
          refine ⟨_, a, hz, rfl, ?_, _, b, hz, rfl, ?_, ?_⟩
          · rw [show (1 : Int) + (i : Nat) = ((i + 1 : Nat) : Int) by omega]; exact atI_nat ha1
          · rw [show (1 : Int) + (i : Nat) - 1 = (i : Int) by omega]; exact atI_nat hb1
          · rw [lt_signs]
            have ew : wkAt z.cps.toList (D.int (1 + (i : Nat))).iv = !decide (b < a) := by
              unfold wkAt
              show (!decide (z.cps.toList.getD (((1 : Int) + (i : Nat)).toNat - 1) 0 < z.cps.toList.getD ((1 : Int) + (i : Nat)).toNat 0)) = _
              rw [show ((1 : Int) + (i : Nat)).toNat = i + 1 by omega, Nat.add_sub_cancel, getD_of hb1, getD_of ha1]
            rw [ew] at h1 h2
            by_cases hlt : b < a
            · rw [decide_eq_true hlt] at h2 ⊢; exact h2 rfl
            · rw [decide_eq_false hlt] at h1 ⊢; exact h1 rfl
        · rw [List.nil_append, List.map_id']
          have hgr : (D.lst (rgD 1 (z.length - 1))).goodB 1 = true ∨ True := .inr trivial
          have hokr : (D.lst ((rgD 1 (z.length - 1)).filter fun d => wkAt z.cps.toList d.iv)).ok := by
            have : (D.lst (rgD 1 (z.length - 1))).goodB 1 = true := by
              rw [goodB_lst, Bool.and_eq_true]
              have hz1 : z.length ≤ 1000 := by
                have h' : (decide (z.length ≤ 1000) && z.cps.all (· < 0x110000)) = true := by cases n <;> exact hg
                rw [Bool.and_eq_true] at h'
                exact of_decide_eq_true h'.1
              refine ⟨decide_eq_true (by rw [rgD_length]; omega), List.all_eq_true.mpr fun d hd => ?_⟩
              obtain ⟨i, _, rfl⟩ := List.mem_map.mp hd
              rfl
            exact good_ok (good_filter this) (by decide)
          refine ⟨by decide, hokr, ok_nil, ?_⟩
          rw [eqv_nil, filter_empty, rg1_all _ (fun i => !wkAt z.cps.toList i)]
          rw [ascB_at] at q
          have ee : ((List.range (z.length - 1)).all fun i => !wkAt z.cps.toList ((i : Int) + 1)) = (List.range (z.cps.toList.length - 1)).all fun i => decide (z.cps.toList.getD i 0 < z.cps.toList.getD (i + 1) 0) := by
            rw [str_len]
            congr 1
            funext i
            unfold wkAt
            rw [show ((i : Int) + 1).toNat = i + 1 by omega, Nat.add_sub_cancel, Bool.not_not]
          rw [ee]
          exact fg_self q
      · have ha' : z.cps.toList.all (fun c => decide (c ∈ figs)) = false := Bool.eq_false_iff.mpr ha
        rw [ha'] at q ⊢
        simp only [dVar, dC, dOp, dUn, dTst, dAnd, dOr, dNot, dAndV, dOrV, dNotV, dIfE, dNil, dCons, dTup, dLst, dNew, dCall, dB, dChain, dNext, dSeq, dDrop, dRet, dRetN, dIf, dAsg, gN, gSeq, gT, dPar2, dPar3, dAug, dRaise, dFor, dYes, dLc, dels, del, put, nth, startN, dFrz, dIx, dPart, dNoP, dSl, dApp, dPut, dM1, dFmt, dJs, dJoined, dIsi, dRg1, dRg2, dLsI, dTpI, dStI, dZip, dEnL, dLsRg1, dLsRg2, dNewK, dNewT, dOneT, dSetSort, dLsZip, dNewCan, oAdd, oSub, oMul, oDiv, oMod, oPow, oLt, oLe, oGt, oGe, oIs, oIsNot, oNeg, oIAdd, D.isN, bLen, bInt, bStr, bAbs, bBool, bList, bTuple, D.ty, D.isInt, D.isBool, D.isStr, D.isTup, D.isLst, List.map_cons, List.map_nil, List.length_cons, List.length_nil, List.replicate_succ, List.replicate_zero, List.cons_append, List.nil_append, Option.isSome_some, if_true, if_false, Bool.false_eq_true, reduceIte, Nat.reduceAdd, Nat.reduceSub, Bool.not_true, Bool.not_false, true_and, and_true]
        exact fg_self q
  | scr _ => cases hf.1
  | fn _ => cases hf.1
  | obj _ => cases hf.1
  | _ => simp only [t_law_good_week, dVar, dC, dOp, dUn, dTst, dAnd, dOr, dNot, dAndV, dOrV, dNotV, dIfE, dNil, dCons, dTup, dLst, dNew, dCall, dB, dChain, dNext, dSeq, dDrop, dRet, dRetN, dIf, dAsg, gN, gSeq, gT, dPar2, dPar3, dAug, dRaise, dFor, dYes, dLc, dels, del, put, nth, startN, dFrz, dIx, dPart, dNoP, dSl, dApp, dPut, dM1, dFmt, dJs, dJoined, dIsi, dRg1, dRg2, dLsI, dTpI, dStI, dZip, dEnL, dLsRg1, dLsRg2, dNewK, dNewT, dOneT, dSetSort, dLsZip, dNewCan, oAdd, oSub, oMul, oDiv, oMod, oPow, oLt, oLe, oGt, oGe, oIs, oIsNot, oNeg, oIAdd, D.isN, bLen, bInt, bStr, bAbs, bBool, bList, bTuple, D.ty, D.isInt, D.isBool, D.isStr, D.isTup, D.isLst, List.map_cons, List.map_nil, List.length_cons, List.length_nil, List.replicate_succ, List.replicate_zero, List.cons_append, List.nil_append, Option.isSome_some, if_true, if_false, Bool.false_eq_true, reduceIte, Nat.reduceAdd, Nat.reduceSub, Bool.not_true, Bool.not_false, true_and, and_true]; exact fg_self q
def S_law_good_house : DSp := fun ds M Q R => ∃ (x : D) (n : Nat), x.goodB n = true ∧ ds = [x] ∧ Q (.bl x.houseB) M
def t_law_good_house : DTS := dSeq (dIf (dOr (dNot (dTst (dIsi D.isTup (dVar 0)))) (dOr (dTst (dOp oNe (dB bLen (dCons (dVar 0) (dNil))) (dC (.int 3)))) (dNot (dTst (dCall S_law_int (dCons (dOp dIx (dVar 0) (dC (.int 2))) (dCons (dC (.int 1)) (dCons (dC (.int 3)) (dNil))))))))) (dRet (dC (.bl false))) (dNext)) (dSeq (dIf (dOr (dNot (dTst (dCall S_law_good_week (dCons (dOp dIx (dVar 0) (dC (.int 0))) (dNil))))) (dNot (dTst (dCall S_law_good_week (dCons (dOp dIx (dVar 0) (dC (.int 1))) (dNil)))))) (dRet (dC (.bl false))) (dNext)) (dRet (dChain oLe oLe (dC (.int 1)) (dB bLen (dCons (dOp dIx (dVar 0) (dC (.int 0))) (dNil))) (dOp oMul (dOp dIx (dVar 0) (dC (.int 2))) (dB bLen (dCons (dOp dIx (dVar 0) (dC (.int 1))) (dNil)))))))
theorem good_tup {n : Nat} {ds : List D} (h : (D.tup ds).goodB n = true) : ds.length ≤ 1000 ∧ ∀ d ∈ ds, d.goodB n = true := by
  cases n with
  | zero => cases h
  | succ n =>
    rw [goodB_tup, Bool.and_eq_true] at h
    exact ⟨of_decide_eq_true h.1, fun d hd => goodB_mono (Nat.le_succ n) (List.all_eq_true.mp h.2 d hd)⟩
theorem good_str {z : Str} {n : Nat} (h : (D.str z).goodB n = true) : z.length ≤ 1000 := by
  have h' : (decide (z.length ≤ 1000) && z.cps.all (· < 0x110000)) = true := by cases n <;> exact h
  rw [Bool.and_eq_true] at h'
  exact of_decide_eq_true h'.1
theorem good_ty {n : Nat} {d : D} (h : d.goodB n = true) : d.ty.isSome = true := (good_fine h).1
theorem kp_law_good_house : Keeps S_law_good_house 1 t_law_good_house := by
  rintro ds M Q R ⟨x, n, hg, rfl, q⟩
  have hf := good_fine hg
  cases x with
  | tup ds =>
    obtain ⟨hlen, hd⟩ := good_tup hg
    simp only [t_law_good_house, dVar, dC, dOp, dUn, dTst, dAnd, dOr, dNot, dAndV, dOrV, dNotV, dIfE, dNil, dCons, dTup, dLst, dNew, dCall, dB, dChain, dNext, dSeq, dDrop, dRet, dRetN, dIf, dAsg, gN, gSeq, gT, dPar2, dPar3, dAug, dRaise, dFor, dYes, dLc, dels, del, put, nth, startN, dFrz, dIx, dPart, dNoP, dSl, dApp, dPut, dM1, dFmt, dJs, dJoined, dIsi, dRg1, dRg2, dLsI, dTpI, dStI, dZip, dEnL, dLsRg1, dLsRg2, dNewK, dNewT, dOneT, dSetSort, dLsZip, dNewCan, oAdd, oSub, oMul, oDiv, oMod, oPow, oLt, oLe, oGt, oGe, oIs, oIsNot, oNeg, oIAdd, D.isN, bLen, bInt, bStr, bAbs, bBool, bList, bTuple, D.ty, D.isInt, D.isBool, D.isStr, D.isTup, D.isLst, List.map_cons, List.map_nil, List.length_cons, List.length_nil, List.replicate_succ, List.replicate_zero, List.cons_append, List.nil_append, Option.isSome_some, if_true, if_false, Bool.false_eq_true, reduceIte, Nat.reduceAdd, Nat.reduceSub, Bool.not_true, Bool.not_false, true_and, and_true]
    refine ⟨ok_int _, ok_int _, ?_⟩
    rw [eqv_int]
    by_cases h3 : ds.length = 3
    · match ds, h3 with
      | [a, b, c], _ =>
      have fa := hd a (by simp)
      have fb := hd b (by simp)
      have fc := hd c (by simp)
      simp only [List.length_cons, List.length_nil, Nat.reduceAdd, Int.cast_ofNat_Int, decide_true, Bool.not_true, dVar, dC, dOp, dUn, dTst, dAnd, dOr, dNot, dAndV, dOrV, dNotV, dIfE, dNil, dCons, dTup, dLst, dNew, dCall, dB, dChain, dNext, dSeq, dDrop, dRet, dRetN, dIf, dAsg, gN, gSeq, gT, dPar2, dPar3, dAug, dRaise, dFor, dYes, dLc, dels, del, put, nth, startN, dFrz, dIx, dPart, dNoP, dSl, dApp, dPut, dM1, dFmt, dJs, dJoined, dIsi, dRg1, dRg2, dLsI, dTpI, dStI, dZip, dEnL, dLsRg1, dLsRg2, dNewK, dNewT, dOneT, dSetSort, dLsZip, dNewCan, oAdd, oSub, oMul, oDiv, oMod, oPow, oLt, oLe, oGt, oGe, oIs, oIsNot, oNeg, oIAdd, D.isN, bLen, bInt, bStr, bAbs, bBool, bList, bTuple, D.ty, D.isInt, D.isBool, D.isStr, D.isTup, D.isLst, List.map_cons, List.map_nil, List.length_cons, List.length_nil, List.replicate_succ, List.replicate_zero, List.cons_append, List.nil_append, Option.isSome_some, if_true, if_false, Bool.false_eq_true, reduceIte, Nat.reduceAdd, Nat.reduceSub, Bool.not_true, Bool.not_false, true_and, and_true]
      refine ⟨_, _, rfl, ix2 .., c, 1, 3, good_ty fc, rfl, ?_⟩
      dsimp only
      cases hc : c.inB 1 3 with
      | false =>
        simp only [dVar, dC, dOp, dUn, dTst, dAnd, dOr, dNot, dAndV, dOrV, dNotV, dIfE, dNil, dCons, dTup, dLst, dNew, dCall, dB, dChain, dNext, dSeq, dDrop, dRet, dRetN, dIf, dAsg, gN, gSeq, gT, dPar2, dPar3, dAug, dRaise, dFor, dYes, dLc, dels, del, put, nth, startN, dFrz, dIx, dPart, dNoP, dSl, dApp, dPut, dM1, dFmt, dJs, dJoined, dIsi, dRg1, dRg2, dLsI, dTpI, dStI, dZip, dEnL, dLsRg1, dLsRg2, dNewK, dNewT, dOneT, dSetSort, dLsZip, dNewCan, oAdd, oSub, oMul, oDiv, oMod, oPow, oLt, oLe, oGt, oGe, oIs, oIsNot, oNeg, oIAdd, D.isN, bLen, bInt, bStr, bAbs, bBool, bList, bTuple, D.ty, D.isInt, D.isBool, D.isStr, D.isTup, D.isLst, List.map_cons, List.map_nil, List.length_cons, List.length_nil, List.replicate_succ, List.replicate_zero, List.cons_append, List.nil_append, Option.isSome_some, if_true, if_false, Bool.false_eq_true, reduceIte, Nat.reduceAdd, Nat.reduceSub, Bool.not_true, Bool.not_false, true_and, and_true]
        have e : (D.tup [a, b, c]).houseB = false := Bool.eq_false_iff.mpr fun z => by rw [(houseB_3 a b c z).1] at hc; cases hc
        rw [e] at q; exact fg_self q
      | true =>
        obtain ⟨i, rfl, i1, i2⟩ := inB_int hc
        simp only [dVar, dC, dOp, dUn, dTst, dAnd, dOr, dNot, dAndV, dOrV, dNotV, dIfE, dNil, dCons, dTup, dLst, dNew, dCall, dB, dChain, dNext, dSeq, dDrop, dRet, dRetN, dIf, dAsg, gN, gSeq, gT, dPar2, dPar3, dAug, dRaise, dFor, dYes, dLc, dels, del, put, nth, startN, dFrz, dIx, dPart, dNoP, dSl, dApp, dPut, dM1, dFmt, dJs, dJoined, dIsi, dRg1, dRg2, dLsI, dTpI, dStI, dZip, dEnL, dLsRg1, dLsRg2, dNewK, dNewT, dOneT, dSetSort, dLsZip, dNewCan, oAdd, oSub, oMul, oDiv, oMod, oPow, oLt, oLe, oGt, oGe, oIs, oIsNot, oNeg, oIAdd, D.isN, bLen, bInt, bStr, bAbs, bBool, bList, bTuple, D.ty, D.isInt, D.isBool, D.isStr, D.isTup, D.isLst, List.map_cons, List.map_nil, List.length_cons, List.length_nil, List.replicate_succ, List.replicate_zero, List.cons_append, List.nil_append, Option.isSome_some, if_true, if_false, Bool.false_eq_true, reduceIte, Nat.reduceAdd, Nat.reduceSub, Bool.not_true, Bool.not_false, true_and, and_true]
        refine ⟨_, _, rfl, ix0 .., a, n, fa, rfl, ?_⟩
        dsimp only
        cases ha : a.wkB with
        | false =>
          simp only [dVar, dC, dOp, dUn, dTst, dAnd, dOr, dNot, dAndV, dOrV, dNotV, dIfE, dNil, dCons, dTup, dLst, dNew, dCall, dB, dChain, dNext, dSeq, dDrop, dRet, dRetN, dIf, dAsg, gN, gSeq, gT, dPar2, dPar3, dAug, dRaise, dFor, dYes, dLc, dels, del, put, nth, startN, dFrz, dIx, dPart, dNoP, dSl, dApp, dPut, dM1, dFmt, dJs, dJoined, dIsi, dRg1, dRg2, dLsI, dTpI, dStI, dZip, dEnL, dLsRg1, dLsRg2, dNewK, dNewT, dOneT, dSetSort, dLsZip, dNewCan, oAdd, oSub, oMul, oDiv, oMod, oPow, oLt, oLe, oGt, oGe, oIs, oIsNot, oNeg, oIAdd, D.isN, bLen, bInt, bStr, bAbs, bBool, bList, bTuple, D.ty, D.isInt, D.isBool, D.isStr, D.isTup, D.isLst, List.map_cons, List.map_nil, List.length_cons, List.length_nil, List.replicate_succ, List.replicate_zero, List.cons_append, List.nil_append, Option.isSome_some, if_true, if_false, Bool.false_eq_true, reduceIte, Nat.reduceAdd, Nat.reduceSub, Bool.not_true, Bool.not_false, true_and, and_true]
          have e : (D.tup [a, b, .int i]).houseB = false := Bool.eq_false_iff.mpr fun z => by rw [(houseB_3 a b _ z).2.1] at ha; cases ha
          rw [e] at q; exact fg_self q
        | true =>
          obtain ⟨za, rfl, wa⟩ := wkB_str ha
          simp only [dVar, dC, dOp, dUn, dTst, dAnd, dOr, dNot, dAndV, dOrV, dNotV, dIfE, dNil, dCons, dTup, dLst, dNew, dCall, dB, dChain, dNext, dSeq, dDrop, dRet, dRetN, dIf, dAsg, gN, gSeq, gT, dPar2, dPar3, dAug, dRaise, dFor, dYes, dLc, dels, del, put, nth, startN, dFrz, dIx, dPart, dNoP, dSl, dApp, dPut, dM1, dFmt, dJs, dJoined, dIsi, dRg1, dRg2, dLsI, dTpI, dStI, dZip, dEnL, dLsRg1, dLsRg2, dNewK, dNewT, dOneT, dSetSort, dLsZip, dNewCan, oAdd, oSub, oMul, oDiv, oMod, oPow, oLt, oLe, oGt, oGe, oIs, oIsNot, oNeg, oIAdd, D.isN, bLen, bInt, bStr, bAbs, bBool, bList, bTuple, D.ty, D.isInt, D.isBool, D.isStr, D.isTup, D.isLst, List.map_cons, List.map_nil, List.length_cons, List.length_nil, List.replicate_succ, List.replicate_zero, List.cons_append, List.nil_append, Option.isSome_some, if_true, if_false, Bool.false_eq_true, reduceIte, Nat.reduceAdd, Nat.reduceSub, Bool.not_true, Bool.not_false, true_and, and_true]
          refine ⟨_, _, rfl, ix1 .., b, n, fb, rfl, ?_⟩
          dsimp only
          cases hb : b.wkB with
          | false =>
            simp only [dVar, dC, dOp, dUn, dTst, dAnd, dOr, dNot, dAndV, dOrV, dNotV, dIfE, dNil, dCons, dTup, dLst, dNew, dCall, dB, dChain, dNext, dSeq, dDrop, dRet, dRetN, dIf, dAsg, gN, gSeq, gT, dPar2, dPar3, dAug, dRaise, dFor, dYes, dLc, dels, del, put, nth, startN, dFrz, dIx, dPart, dNoP, dSl, dApp, dPut, dM1, dFmt, dJs, dJoined, dIsi, dRg1, dRg2, dLsI, dTpI, dStI, dZip, dEnL, dLsRg1, dLsRg2, dNewK, dNewT, dOneT, dSetSort, dLsZip, dNewCan, oAdd, oSub, oMul, oDiv, oMod, oPow, oLt, oLe, oGt, oGe, oIs, oIsNot, oNeg, oIAdd, D.isN, bLen, bInt, bStr, bAbs, bBool, bList, bTuple, D.ty, D.isInt, D.isBool, D.isStr, D.isTup, D.isLst, List.map_cons, List.map_nil, List.length_cons, List.length_nil, List.replicate_succ, List.replicate_zero, List.cons_append, List.nil_append, Option.isSome_some, if_true, if_false, Bool.false_eq_true, reduceIte, Nat.reduceAdd, Nat.reduceSub, Bool.not_true, Bool.not_false, true_and, and_true]
            have e : (D.tup [.str za, b, .int i]).houseB = false := Bool.eq_false_iff.mpr fun z => by rw [(houseB_3 _ b _ z).2.2] at hb; cases hb
            rw [e] at q; exact fg_self q
          | true =>
            obtain ⟨zb, rfl, wb⟩ := wkB_str hb
            have la := good_str fa
            have lb := good_str fb
            have q' : Q (.bl (!decide (za.length = 0) && (!decide (zb.length = 0) && decide ((za.length : Int) ≤ i * zb.length)))) M := by
              simp only [D.houseB, decide_eq_true i1, decide_eq_true i2, wa, wb, Bool.true_and] at q; exact q
            simp only [dVar, dC, dOp, dUn, dTst, dAnd, dOr, dNot, dAndV, dOrV, dNotV, dIfE, dNil, dCons, dTup, dLst, dNew, dCall, dB, dChain, dNext, dSeq, dDrop, dRet, dRetN, dIf, dAsg, gN, gSeq, gT, dPar2, dPar3, dAug, dRaise, dFor, dYes, dLc, dels, del, put, nth, startN, dFrz, dIx, dPart, dNoP, dSl, dApp, dPut, dM1, dFmt, dJs, dJoined, dIsi, dRg1, dRg2, dLsI, dTpI, dStI, dZip, dEnL, dLsRg1, dLsRg2, dNewK, dNewT, dOneT, dSetSort, dLsZip, dNewCan, oAdd, oSub, oMul, oDiv, oMod, oPow, oLt, oLe, oGt, oGe, oIs, oIsNot, oNeg, oIAdd, D.isN, bLen, bInt, bStr, bAbs, bBool, bList, bTuple, D.ty, D.isInt, D.isBool, D.isStr, D.isTup, D.isLst, List.map_cons, List.map_nil, List.length_cons, List.length_nil, List.replicate_succ, List.replicate_zero, List.cons_append, List.nil_append, Option.isSome_some, if_true, if_false, Bool.false_eq_true, reduceIte, Nat.reduceAdd, Nat.reduceSub, Bool.not_true, Bool.not_false, true_and, and_true]
            refine ⟨_, _, rfl, ix0 .., by omega, ?_⟩
            by_cases l1 : za.length = 0
            · rw [decide_eq_true l1] at q'
              rw [decide_eq_false (show ¬ ((1 : Int) ≤ (za.length : Nat)) by omega)]
              simp only [dVar, dC, dOp, dUn, dTst, dAnd, dOr, dNot, dAndV, dOrV, dNotV, dIfE, dNil, dCons, dTup, dLst, dNew, dCall, dB, dChain, dNext, dSeq, dDrop, dRet, dRetN, dIf, dAsg, gN, gSeq, gT, dPar2, dPar3, dAug, dRaise, dFor, dYes, dLc, dels, del, put, nth, startN, dFrz, dIx, dPart, dNoP, dSl, dApp, dPut, dM1, dFmt, dJs, dJoined, dIsi, dRg1, dRg2, dLsI, dTpI, dStI, dZip, dEnL, dLsRg1, dLsRg2, dNewK, dNewT, dOneT, dSetSort, dLsZip, dNewCan, oAdd, oSub, oMul, oDiv, oMod, oPow, oLt, oLe, oGt, oGe, oIs, oIsNot, oNeg, oIAdd, D.isN, bLen, bInt, bStr, bAbs, bBool, bList, bTuple, D.ty, D.isInt, D.isBool, D.isStr, D.isTup, D.isLst, List.map_cons, List.map_nil, List.length_cons, List.length_nil, List.replicate_succ, List.replicate_zero, List.cons_append, List.nil_append, Option.isSome_some, if_true, if_false, Bool.false_eq_true, reduceIte, Nat.reduceAdd, Nat.reduceSub, Bool.not_true, Bool.not_false, true_and, and_true] at q' ⊢; exact fg_self q'
            · rw [decide_eq_false l1] at q'
              rw [decide_eq_true (show ((1 : Int) ≤ (za.length : Nat)) by omega)]
              simp only [dVar, dC, dOp, dUn, dTst, dAnd, dOr, dNot, dAndV, dOrV, dNotV, dIfE, dNil, dCons, dTup, dLst, dNew, dCall, dB, dChain, dNext, dSeq, dDrop, dRet, dRetN, dIf, dAsg, gN, gSeq, gT, dPar2, dPar3, dAug, dRaise, dFor, dYes, dLc, dels, del, put, nth, startN, dFrz, dIx, dPart, dNoP, dSl, dApp, dPut, dM1, dFmt, dJs, dJoined, dIsi, dRg1, dRg2, dLsI, dTpI, dStI, dZip, dEnL, dLsRg1, dLsRg2, dNewK, dNewT, dOneT, dSetSort, dLsZip, dNewCan, oAdd, oSub, oMul, oDiv, oMod, oPow, oLt, oLe, oGt, oGe, oIs, oIsNot, oNeg, oIAdd, D.isN, bLen, bInt, bStr, bAbs, bBool, bList, bTuple, D.ty, D.isInt, D.isBool, D.isStr, D.isTup, D.isLst, List.map_cons, List.map_nil, List.length_cons, List.length_nil, List.replicate_succ, List.replicate_zero, List.cons_append, List.nil_append, Option.isSome_some, if_true, if_false, Bool.false_eq_true, reduceIte, Nat.reduceAdd, Nat.reduceSub, Bool.not_true, Bool.not_false, true_and, and_true]
              refine ⟨_, _, rfl, ix2 .., _, _, rfl, ix1 .., by omega, .inl (small_of (by omega) (by omega)), ?_⟩
              simp only [oLe]
              by_cases l2 : zb.length = 0
              · rw [decide_eq_true l2] at q'
                rw [l2, Int.natCast_zero, Int.mul_zero, decide_eq_false (show ¬ ((za.length : Nat) : Int) ≤ 0 by omega)]
                simp only [dVar, dC, dOp, dUn, dTst, dAnd, dOr, dNot, dAndV, dOrV, dNotV, dIfE, dNil, dCons, dTup, dLst, dNew, dCall, dB, dChain, dNext, dSeq, dDrop, dRet, dRetN, dIf, dAsg, gN, gSeq, gT, dPar2, dPar3, dAug, dRaise, dFor, dYes, dLc, dels, del, put, nth, startN, dFrz, dIx, dPart, dNoP, dSl, dApp, dPut, dM1, dFmt, dJs, dJoined, dIsi, dRg1, dRg2, dLsI, dTpI, dStI, dZip, dEnL, dLsRg1, dLsRg2, dNewK, dNewT, dOneT, dSetSort, dLsZip, dNewCan, oAdd, oSub, oMul, oDiv, oMod, oPow, oLt, oLe, oGt, oGe, oIs, oIsNot, oNeg, oIAdd, D.isN, bLen, bInt, bStr, bAbs, bBool, bList, bTuple, D.ty, D.isInt, D.isBool, D.isStr, D.isTup, D.isLst, List.map_cons, List.map_nil, List.length_cons, List.length_nil, List.replicate_succ, List.replicate_zero, List.cons_append, List.nil_append, Option.isSome_some, if_true, if_false, Bool.false_eq_true, reduceIte, Nat.reduceAdd, Nat.reduceSub, Bool.not_true, Bool.not_false, true_and, and_true] at q'; exact fg_self q'
              · rw [decide_eq_false l2] at q'
                exact fg_self (by simpa using q')
    · have e : (D.tup ds).houseB = false := houseB_no1 fun a b c z => h3 (by rw [z]; rfl)
      rw [e] at q
      rw [decide_eq_false (by omega)]
      simp only [dVar, dC, dOp, dUn, dTst, dAnd, dOr, dNot, dAndV, dOrV, dNotV, dIfE, dNil, dCons, dTup, dLst, dNew, dCall, dB, dChain, dNext, dSeq, dDrop, dRet, dRetN, dIf, dAsg, gN, gSeq, gT, dPar2, dPar3, dAug, dRaise, dFor, dYes, dLc, dels, del, put, nth, startN, dFrz, dIx, dPart, dNoP, dSl, dApp, dPut, dM1, dFmt, dJs, dJoined, dIsi, dRg1, dRg2, dLsI, dTpI, dStI, dZip, dEnL, dLsRg1, dLsRg2, dNewK, dNewT, dOneT, dSetSort, dLsZip, dNewCan, oAdd, oSub, oMul, oDiv, oMod, oPow, oLt, oLe, oGt, oGe, oIs, oIsNot, oNeg, oIAdd, D.isN, bLen, bInt, bStr, bAbs, bBool, bList, bTuple, D.ty, D.isInt, D.isBool, D.isStr, D.isTup, D.isLst, List.map_cons, List.map_nil, List.length_cons, List.length_nil, List.replicate_succ, List.replicate_zero, List.cons_append, List.nil_append, Option.isSome_some, if_true, if_false, Bool.false_eq_true, reduceIte, Nat.reduceAdd, Nat.reduceSub, Bool.not_true, Bool.not_false, true_and, and_true]
      exact fg_self q
  | scr _ => cases hf.1
  | fn _ => cases hf.1
  | obj _ => cases hf.1
  | _ => simp only [t_law_good_house, dVar, dC, dOp, dUn, dTst, dAnd, dOr, dNot, dAndV, dOrV, dNotV, dIfE, dNil, dCons, dTup, dLst, dNew, dCall, dB, dChain, dNext, dSeq, dDrop, dRet, dRetN, dIf, dAsg, gN, gSeq, gT, dPar2, dPar3, dAug, dRaise, dFor, dYes, dLc, dels, del, put, nth, startN, dFrz, dIx, dPart, dNoP, dSl, dApp, dPut, dM1, dFmt, dJs, dJoined, dIsi, dRg1, dRg2, dLsI, dTpI, dStI, dZip, dEnL, dLsRg1, dLsRg2, dNewK, dNewT, dOneT, dSetSort, dLsZip, dNewCan, oAdd, oSub, oMul, oDiv, oMod, oPow, oLt, oLe, oGt, oGe, oIs, oIsNot, oNeg, oIAdd, D.isN, bLen, bInt, bStr, bAbs, bBool, bList, bTuple, D.ty, D.isInt, D.isBool, D.isStr, D.isTup, D.isLst, List.map_cons, List.map_nil, List.length_cons, List.length_nil, List.replicate_succ, List.replicate_zero, List.cons_append, List.nil_append, Option.isSome_some, if_true, if_false, Bool.false_eq_true, reduceIte, Nat.reduceAdd, Nat.reduceSub, Bool.not_true, Bool.not_false, true_and, and_true]; exact fg_self q
def S_law_good_calendar : DSp := fun ds M Q R => ∃ (x : D) (n : Nat), x.goodB n = true ∧ n ≤ 60 ∧ ds = [x] ∧ Q (.bl x.calB) M
def t_law_good_calendar : DTS := dSeq (dIf (dOr (dNot (dTst (dIsi D.isTup (dVar 0)))) (dTst (dOp oGt (dB bLen (dCons (dVar 0) (dNil))) (dC (.int 20))))) (dRet (dC (.bl false))) (dNext)) (dSeq (dIf (dTst (dOp oNe (dLc [1] (dTpI (dVar 0)) (gN 1) (dNot (dTst (dCall S_law_int (dCons (dVar 1) (dCons (dC (.int 0)) (dCons (dOp oPow (dC (.int 10)) (dC (.int 30))) (dNil))))))) (dVar 1)) (dLst (dNil)))) (dRet (dC (.bl false))) (dNext)) (dRet (dOp oEq (dLc [2] (dRg2 (dC (.int 1)) (dB bLen (dCons (dVar 0) (dNil)))) (gN 2) (dTst (dOp oLe (dOp dIx (dVar 0) (dVar 2)) (dOp dIx (dVar 0) (dOp oSub (dVar 2) (dC (.int 1)))))) (dVar 2)) (dLst (dNil)))))
def intAt (l : List Int) (i : Int) : Bool := !decide (l.getD (i.toNat - 1) 0 < l.getD i.toNat 0)
theorem good_rg (n : Nat) (h : n ≤ 1000) : (D.lst (rgD 1 n)).goodB 1 = true := by
  rw [goodB_lst, Bool.and_eq_true]
  refine ⟨decide_eq_true (by rw [rgD_length]; omega), List.all_eq_true.mpr fun d hd => ?_⟩
  obtain ⟨i, _, rfl⟩ := List.mem_map.mp hd
  rfl
theorem kp_law_good_calendar : Keeps S_law_good_calendar 3 t_law_good_calendar := by
  rintro ds M Q R ⟨x, n, hg, hn60, rfl, q⟩
  have hf := good_fine hg
  cases x with
  | tup ds =>
    obtain ⟨hlen, hd⟩ := good_tup hg
    simp only [t_law_good_calendar, dVar, dC, dOp, dUn, dTst, dAnd, dOr, dNot, dAndV, dOrV, dNotV, dIfE, dNil, dCons, dTup, dLst, dNew, dCall, dB, dChain, dNext, dSeq, dDrop, dRet, dRetN, dIf, dAsg, gN, gSeq, gT, dPar2, dPar3, dAug, dRaise, dFor, dYes, dLc, dels, del, put, nth, startN, dFrz, dIx, dPart, dNoP, dSl, dApp, dPut, dM1, dFmt, dJs, dJoined, dIsi, dRg1, dRg2, dLsI, dTpI, dStI, dZip, dEnL, dLsRg1, dLsRg2, dNewK, dNewT, dOneT, dSetSort, dLsZip, dNewCan, oAdd, oSub, oMul, oDiv, oMod, oPow, oLt, oLe, oGt, oGe, oIs, oIsNot, oNeg, oIAdd, D.isN, bLen, bInt, bStr, bAbs, bBool, bList, bTuple, D.ty, D.isInt, D.isBool, D.isStr, D.isTup, D.isLst, List.map_cons, List.map_nil, List.length_cons, List.length_nil, List.replicate_succ, List.replicate_zero, List.cons_append, List.nil_append, Option.isSome_some, if_true, if_false, Bool.false_eq_true, reduceIte, Nat.reduceAdd, Nat.reduceSub, Bool.not_true, Bool.not_false, true_and, and_true]
    by_cases h20 : ds.length ≤ 20
    · rw [decide_eq_false (by omega)]
      simp only [dVar, dC, dOp, dUn, dTst, dAnd, dOr, dNot, dAndV, dOrV, dNotV, dIfE, dNil, dCons, dTup, dLst, dNew, dCall, dB, dChain, dNext, dSeq, dDrop, dRet, dRetN, dIf, dAsg, gN, gSeq, gT, dPar2, dPar3, dAug, dRaise, dFor, dYes, dLc, dels, del, put, nth, startN, dFrz, dIx, dPart, dNoP, dSl, dApp, dPut, dM1, dFmt, dJs, dJoined, dIsi, dRg1, dRg2, dLsI, dTpI, dStI, dZip, dEnL, dLsRg1, dLsRg2, dNewK, dNewT, dOneT, dSetSort, dLsZip, dNewCan, oAdd, oSub, oMul, oDiv, oMod, oPow, oLt, oLe, oGt, oGe, oIs, oIsNot, oNeg, oIAdd, D.isN, bLen, bInt, bStr, bAbs, bBool, bList, bTuple, D.ty, D.isInt, D.isBool, D.isStr, D.isTup, D.isLst, List.map_cons, List.map_nil, List.length_cons, List.length_nil, List.replicate_succ, List.replicate_zero, List.cons_append, List.nil_append, Option.isSome_some, if_true, if_false, Bool.false_eq_true, reduceIte, Nat.reduceAdd, Nat.reduceSub, Bool.not_true, Bool.not_false, true_and, and_true]
      refine ⟨ds, rfl, by omega, lc_pure (fun d => !d.inB 0 great) (fun d => d) _ [] (fun d hm k1 k2 h1 h2 => ?_) ?_⟩
      · simp only [dVar, dC, dOp, dUn, dTst, dAnd, dOr, dNot, dAndV, dOrV, dNotV, dIfE, dNil, dCons, dTup, dLst, dNew, dCall, dB, dChain, dNext, dSeq, dDrop, dRet, dRetN, dIf, dAsg, gN, gSeq, gT, dPar2, dPar3, dAug, dRaise, dFor, dYes, dLc, dels, del, put, nth, startN, dFrz, dIx, dPart, dNoP, dSl, dApp, dPut, dM1, dFmt, dJs, dJoined, dIsi, dRg1, dRg2, dLsI, dTpI, dStI, dZip, dEnL, dLsRg1, dLsRg2, dNewK, dNewT, dOneT, dSetSort, dLsZip, dNewCan, oAdd, oSub, oMul, oDiv, oMod, oPow, oLt, oLe, oGt, oGe, oIs, oIsNot, oNeg, oIAdd, D.isN, bLen, bInt, bStr, bAbs, bBool, bList, bTuple, D.ty, D.isInt, D.isBool, D.isStr, D.isTup, D.isLst, List.map_cons, List.map_nil, List.length_cons, List.length_nil, List.replicate_succ, List.replicate_zero, List.cons_append, List.nil_append, Option.isSome_some, if_true, if_false, Bool.false_eq_true, reduceIte, Nat.reduceAdd, Nat.reduceSub, Bool.not_true, Bool.not_false, true_and, and_true]
        refine ⟨by decide, d, 0, great, good_ty (hd d hm), by rw [great_eq]; rfl, ?_⟩
        dsimp only
        cases e : d.inB 0 great with
        | true => rw [e] at h2; exact h2 rfl
        | false => rw [e] at h1; exact h1 rfl
      · rw [List.nil_append, List.map_id']
        have hl : (D.lst ds).goodB (n + 1) = true := by
          rw [goodB_lst, Bool.and_eq_true]
          exact ⟨decide_eq_true (by omega), List.all_eq_true.mpr hd⟩
        refine ⟨by decide, good_ok (good_filter hl) (by omega), ok_nil, ?_⟩
        rw [eqv_nil, filter_empty]
        cases ha : (ds.all fun d => !!d.inB 0 great) with
        | true =>
          have ha' : (ds.map fun d => d.inB 0 great).all id = true := by
            rw [List.all_map, ← ha]; congr 1; funext d; simp
          obtain ⟨ns, rfl, hn⟩ := all_inB ha'
          have q' : Q (.bl (ascI ns)) M := by
            simp only [D.calB, ints_map, hn, decide_eq_true h20, Bool.true_and] at q; exact q
          rw [List.length_map] at h20 hlen
          simp only [dVar, dC, dOp, dUn, dTst, dAnd, dOr, dNot, dAndV, dOrV, dNotV, dIfE, dNil, dCons, dTup, dLst, dNew, dCall, dB, dChain, dNext, dSeq, dDrop, dRet, dRetN, dIf, dAsg, gN, gSeq, gT, dPar2, dPar3, dAug, dRaise, dFor, dYes, dLc, dels, del, put, nth, startN, dFrz, dIx, dPart, dNoP, dSl, dApp, dPut, dM1, dFmt, dJs, dJoined, dIsi, dRg1, dRg2, dLsI, dTpI, dStI, dZip, dEnL, dLsRg1, dLsRg2, dNewK, dNewT, dOneT, dSetSort, dLsZip, dNewCan, oAdd, oSub, oMul, oDiv, oMod, oPow, oLt, oLe, oGt, oGe, oIs, oIsNot, oNeg, oIAdd, D.isN, bLen, bInt, bStr, bAbs, bBool, bList, bTuple, D.ty, D.isInt, D.isBool, D.isStr, D.isTup, D.isLst, List.map_cons, List.map_nil, List.length_cons, List.length_nil, List.replicate_succ, List.replicate_zero, List.cons_append, List.nil_append, Option.isSome_some, if_true, if_false, Bool.false_eq_true, reduceIte, Nat.reduceAdd, Nat.reduceSub, Bool.not_true, Bool.not_false, true_and, and_true]
          refine ⟨_, _, rfl, rfl, by rw [rgD_length, List.length_map]; omega, ?_⟩
          have hn : (((ns.map D.int).length : Nat) - 1 : Int).toNat = ns.length - 1 := by rw [List.length_map]; omega
          rw [hn]
          refine lc_pure (fun d => intAt ns d.iv) (fun d => d) _ [] (fun d hd k1 k2 h1 h2 => ?_) ?_
          · obtain ⟨i, hi, rfl⟩ := List.mem_map.mp hd
            have hi' := List.mem_range.mp hi
            obtain ⟨a, ha1⟩ : ∃ a, ns[i + 1]? = some a := ⟨_, List.getElem?_eq_getElem (by omega)⟩
            obtain ⟨b, hb1⟩ : ∃ a, ns[i]? = some a := ⟨_, List.getElem?_eq_getElem (by omega)⟩
            simp only [dVar, dC, dOp, dUn, dTst, dAnd, dOr, dNot, dAndV, dOrV, dNotV, dIfE, dNil, dCons, dTup, dLst, dNew, dCall, dB, dChain, dNext, dSeq, dDrop, dRet, dRetN, dIf, dAsg, gN, gSeq, gT, dPar2, dPar3, dAug, dRaise, dFor, dYes, dLc, dels, del, put, nth, startN, dFrz, dIx, dPart, dNoP, dSl, dApp, dPut, dM1, dFmt, dJs, dJoined, dIsi, dRg1, dRg2, dLsI, dTpI, dStI, dZip, dEnL, dLsRg1, dLsRg2, dNewK, dNewT, dOneT, dSetSort, dLsZip, dNewCan, oAdd, oSub, oMul, oDiv, oMod, oPow, oLt, oLe, oGt, oGe, oIs, oIsNot, oNeg, oIAdd, D.isN, bLen, bInt, bStr, bAbs, bBool, bList, bTuple, D.ty, D.isInt, D.isBool, D.isStr, D.isTup, D.isLst, List.map_cons, List.map_nil, List.length_cons, List.length_nil, List.replicate_succ, List.replicate_zero, List.cons_append, List.nil_append, Option.isSome_some, if_true, if_false, Bool.false_eq_true, reduceIte, Nat.reduceAdd, Nat.reduceSub, Bool.not_true, Bool.not_false, true_and, and_true]
            refine ⟨_, .int a, rfl, ?_, _, .int b, rfl, ?_, ?_⟩
            · rw [show (1 : Int) + (i : Nat) = ((i + 1 : Nat) : Int) by omega]; exact atI_nat (by rw [List.getElem?_map, ha1]; rfl)
            · rw [show (1 : Int) + (i : Nat) - 1 = (i : Int) by omega]; exact atI_nat (by rw [List.getElem?_map, hb1]; rfl)
            · simp only [oLe]
              have ew : intAt ns (D.int (1 + (i : Nat))).iv = !decide (b < a) := by
                unfold intAt
                show (!decide (ns.getD (((1 : Int) + (i : Nat)).toNat - 1) 0 < ns.getD ((1 : Int) + (i : Nat)).toNat 0)) = _
                rw [show ((1 : Int) + (i : Nat)).toNat = i + 1 by omega, Nat.add_sub_cancel, getD_of hb1, getD_of ha1]
              rw [ew] at h1 h2
              by_cases hlt : b < a
              · rw [decide_eq_true hlt] at h2
                rw [decide_eq_false (show ¬ a ≤ b by omega)]; exact h2 rfl
              · rw [decide_eq_false hlt] at h1
                rw [decide_eq_true (show a ≤ b by omega)]; exact h1 rfl
          · rw [List.nil_append, List.map_id']
            refine ⟨by decide, good_ok (good_filter (good_rg _ (by omega))) (by decide), ok_nil, ?_⟩
            rw [eqv_nil, filter_empty, rg1_all _ (fun i => !intAt ns i)]
            rw [ascI_at] at q'
            have ee : ((List.range (ns.length - 1)).all fun i => !intAt ns ((i : Int) + 1)) = (List.range (ns.length - 1)).all fun i => decide (ns.getD i 0 < ns.getD (i + 1) 0) := by
              congr 1
              funext i
              unfold intAt
              rw [show ((i : Int) + 1).toNat = i + 1 by omega, Nat.add_sub_cancel, Bool.not_not]
            rw [ee]
            exact fg_self q'
        | false =>
          have e : (D.tup ds).calB = false := by
            simp only [D.calB, decide_eq_true h20, Bool.true_and]
            cases ei : D.ints ds with
            | none => rfl
            | some ns =>
              have ed := ints_some ei
              subst ed
              have e3 : (ns.all fun i => decide (0 ≤ i) && decide (i ≤ great)) = false := by
                rw [← ha, List.all_map]; congr 1; funext i; simp [D.inB]
              dsimp only
              rw [e3]; rfl
          rw [e] at q
          simp only [dVar, dC, dOp, dUn, dTst, dAnd, dOr, dNot, dAndV, dOrV, dNotV, dIfE, dNil, dCons, dTup, dLst, dNew, dCall, dB, dChain, dNext, dSeq, dDrop, dRet, dRetN, dIf, dAsg, gN, gSeq, gT, dPar2, dPar3, dAug, dRaise, dFor, dYes, dLc, dels, del, put, nth, startN, dFrz, dIx, dPart, dNoP, dSl, dApp, dPut, dM1, dFmt, dJs, dJoined, dIsi, dRg1, dRg2, dLsI, dTpI, dStI, dZip, dEnL, dLsRg1, dLsRg2, dNewK, dNewT, dOneT, dSetSort, dLsZip, dNewCan, oAdd, oSub, oMul, oDiv, oMod, oPow, oLt, oLe, oGt, oGe, oIs, oIsNot, oNeg, oIAdd, D.isN, bLen, bInt, bStr, bAbs, bBool, bList, bTuple, D.ty, D.isInt, D.isBool, D.isStr, D.isTup, D.isLst, List.map_cons, List.map_nil, List.length_cons, List.length_nil, List.replicate_succ, List.replicate_zero, List.cons_append, List.nil_append, Option.isSome_some, if_true, if_false, Bool.false_eq_true, reduceIte, Nat.reduceAdd, Nat.reduceSub, Bool.not_true, Bool.not_false, true_and, and_true]
          exact fg_self q
    · rw [calB_len h20] at q
      rw [decide_eq_true (by omega)]
      simp only [dVar, dC, dOp, dUn, dTst, dAnd, dOr, dNot, dAndV, dOrV, dNotV, dIfE, dNil, dCons, dTup, dLst, dNew, dCall, dB, dChain, dNext, dSeq, dDrop, dRet, dRetN, dIf, dAsg, gN, gSeq, gT, dPar2, dPar3, dAug, dRaise, dFor, dYes, dLc, dels, del, put, nth, startN, dFrz, dIx, dPart, dNoP, dSl, dApp, dPut, dM1, dFmt, dJs, dJoined, dIsi, dRg1, dRg2, dLsI, dTpI, dStI, dZip, dEnL, dLsRg1, dLsRg2, dNewK, dNewT, dOneT, dSetSort, dLsZip, dNewCan, oAdd, oSub, oMul, oDiv, oMod, oPow, oLt, oLe, oGt, oGe, oIs, oIsNot, oNeg, oIAdd, D.isN, bLen, bInt, bStr, bAbs, bBool, bList, bTuple, D.ty, D.isInt, D.isBool, D.isStr, D.isTup, D.isLst, List.map_cons, List.map_nil, List.length_cons, List.length_nil, List.replicate_succ, List.replicate_zero, List.cons_append, List.nil_append, Option.isSome_some, if_true, if_false, Bool.false_eq_true, reduceIte, Nat.reduceAdd, Nat.reduceSub, Bool.not_true, Bool.not_false, true_and, and_true]
      exact fg_self q
  | scr _ => cases hf.1
  | fn _ => cases hf.1
  | obj _ => cases hf.1
  | _ => simp only [t_law_good_calendar, dVar, dC, dOp, dUn, dTst, dAnd, dOr, dNot, dAndV, dOrV, dNotV, dIfE, dNil, dCons, dTup, dLst, dNew, dCall, dB, dChain, dNext, dSeq, dDrop, dRet, dRetN, dIf, dAsg, gN, gSeq, gT, dPar2, dPar3, dAug, dRaise, dFor, dYes, dLc, dels, del, put, nth, startN, dFrz, dIx, dPart, dNoP, dSl, dApp, dPut, dM1, dFmt, dJs, dJoined, dIsi, dRg1, dRg2, dLsI, dTpI, dStI, dZip, dEnL, dLsRg1, dLsRg2, dNewK, dNewT, dOneT, dSetSort, dLsZip, dNewCan, oAdd, oSub, oMul, oDiv, oMod, oPow, oLt, oLe, oGt, oGe, oIs, oIsNot, oNeg, oIAdd, D.isN, bLen, bInt, bStr, bAbs, bBool, bList, bTuple, D.ty, D.isInt, D.isBool, D.isStr, D.isTup, D.isLst, List.map_cons, List.map_nil, List.length_cons, List.length_nil, List.replicate_succ, List.replicate_zero, List.cons_append, List.nil_append, Option.isSome_some, if_true, if_false, Bool.false_eq_true, reduceIte, Nat.reduceAdd, Nat.reduceSub, Bool.not_true, Bool.not_false, true_and, and_true]; exact fg_self q
end Dl
namespace Dl
open PySem
/-! ### texts -/
theorem js_str {t : DTE} {ts : List DTE} {acc z : Str} {ρ : Env} {M : Mem} {Q : DQ} {R : DR} (h : ∀ k : DQ, k (.str z) M → t ρ M k R) (hz : z.length ≤ 100000) (ha : (acc ++ z).length ≤ 100000) (q : dJs ts (acc ++ z) ρ M Q R) : dJs (dFmt t :: ts) acc ρ M Q R :=
  h _ (.inl ⟨z, rfl, hz, z, rfl, ha, q⟩)
theorem js_int {t : DTE} {ts : List DTE} {acc : Str} {i : Int} {ρ : Env} {M : Mem} {Q : DQ} {R : DR} (h : ∀ k : DQ, k (.int i) M → t ρ M k R) (hz : i.natAbs.log2 < 1920) (ha : (acc ++ Str.ofString (toString i)).length ≤ 100000) (q : dJs ts (acc ++ Str.ofString (toString i)) ρ M Q R) : dJs (dFmt t :: ts) acc ρ M Q R :=
  h _ (.inr ⟨i, rfl, hz, _, rfl, ha, q⟩)
theorem js_c {ts : List DTE} {acc z : Str} {ρ : Env} {M : Mem} {Q : DQ} {R : DR} (ha : (acc ++ z).length ≤ 100000) (q : dJs ts (acc ++ z) ρ M Q R) : dJs (dC (.str z) :: ts) acc ρ M Q R := ⟨z, rfl, ha, q⟩
theorem len_app (a b : Str) : (a ++ b).length = a.length + b.length := by
  show (a.cps ++ b.cps).size = a.cps.size + b.cps.size
  rw [Array.size_append]
def fg1 (n : Nat) : Str := Str.ofString (toString (n : Int))
theorem fg1_eq {n : Nat} (h : n < 10) : fg1 n = fg n := by
  have e : n = 0 ∨ n = 1 ∨ n = 2 ∨ n = 3 ∨ n = 4 ∨ n = 5 ∨ n = 6 ∨ n = 7 ∨ n = 8 ∨ n = 9 := by omega
  rcases e with e | e | e | e | e | e | e | e | e | e <;> (subst e; decide +kernel)
def hTxt (h : Hs) : Str := Str.empty ++ wk h.work ++ Str.ofString "/" ++ wk h.run ++ Str.ofString "*" ++ fg1 h.speed
def S_text_of : DSp := fun ds M Q R => ∃ (h : Hs), h.Ok ∧ ds = [h.d] ∧ Q (.str (hTxt h)) M
def t_text_of : DTS := dRet (dJoined [dFmt (dOp dIx (dVar 0) (dC (.int 0))), dC (.str ("/" : Str)), dFmt (dOp dIx (dVar 0) (dC (.int 1))), dC (.str ("*" : Str)), dFmt (dOp dIx (dVar 0) (dC (.int 2)))])
theorem kp_text_of : Keeps S_text_of 1 t_text_of := by
  rintro ds M Q R ⟨h, ok, rfl, q⟩
  have h1 := ok.aw.len
  have h2 := ok.ar.len
  have h3 := ok.s3
  have l1 : (Str.empty : Str).length = 0 := by decide +kernel
  have l2 : (Str.ofString "/").length = 1 := by decide +kernel
  have l3 : (Str.ofString "*").length = 1 := by decide +kernel
  have l4 : (fg1 h.speed).length = 1 := by rw [fg1_eq (by omega)]; rfl
  have l5 := wk_length h.work
  have l6 := wk_length h.run
  simp only [t_text_of, dRet, dJoined]
  refine js_str (z := wk h.work) (fun k hk => ⟨_, _, rfl, ix0 .., hk⟩) (by omega) (by simp only [len_app]; omega) ?_
  refine js_c (by simp only [len_app]; omega) ?_
  refine js_str (z := wk h.run) (fun k hk => ⟨_, _, rfl, ix1 .., hk⟩) (by omega) (by simp only [len_app]; omega) ?_
  refine js_c (by simp only [len_app]; omega) ?_
  refine js_int (i := (h.speed : Int)) (fun k hk => ⟨_, _, rfl, ix2 .., hk⟩) ?_ (by
    show (_ ++ fg1 h.speed).length ≤ _
    simp only [len_app]; omega) ?_
  · have : h.speed = 1 ∨ h.speed = 2 ∨ h.speed = 3 := by have := ok.s1; omega
    rcases this with e | e | e <;> (rw [e]; decide)
  · exact fg_self q

/-! ### a value that is a house -/
theorem ascB_pw : ∀ {l : List Nat}, ascB l = true → l.Pairwise (· < ·)
  | [], _ => .nil
  | [a], _ => List.pairwise_singleton _ _
  | a :: b :: l, h => by
    have h' : (decide (a < b) && ascB (b :: l)) = true := h
    rw [Bool.and_eq_true] at h'
    have ih := ascB_pw h'.2
    have hab := of_decide_eq_true h'.1
    refine List.pairwise_cons.mpr ⟨fun c hc => ?_, ih⟩
    rcases List.mem_cons.mp hc with e | e
    · rw [e]; exact hab
    · exact Nat.lt_trans hab ((List.pairwise_cons.mp ih).1 c e)
theorem wkZ_of {z : Str} (h : wkZ z = true) : ∃ l, Asc l ∧ z = wk l := by
  unfold wkZ at h
  rw [Bool.and_eq_true] at h
  obtain ⟨h1, h2⟩ := h
  have hf : ∀ c ∈ z.cps.toList, 48 ≤ c ∧ c < 55 := fun c hc => by
    have := of_decide_eq_true (List.all_eq_true.mp h1 c hc)
    have e : figs = [48, 49, 50, 51, 52, 53, 54] := by decide
    rw [e] at this
    simp only [List.mem_cons, List.not_mem_nil, or_false] at this
    omega
  have hm : (z.cps.toList.map (fun c => c - 48)).map (fun d => 48 + d) = z.cps.toList := by
    rw [List.map_map]
    apply List.ext_getElem
    · simp
    · intro i h1 h2
      have := hf z.cps.toList[i] (List.getElem_mem _)
      simp only [List.getElem_map, Function.comp]
      omega
  refine ⟨z.cps.toList.map (fun c => c - 48), ⟨?_, fun d hd => ?_⟩, ?_⟩
  · have pw := ascB_pw h2
    rw [List.pairwise_map]
    exact pw.imp_of_mem fun {a b} ha hb hab => by have := hf a ha; have := hf b hb; omega
  · obtain ⟨c, hc, rfl⟩ := List.mem_map.mp hd
    have := hf c hc; omega
  · unfold wk
    rw [hm]
theorem houseB_h {x : D} (h : x.houseB = true) : ∃ g : Hs, g.Ok ∧ x = g.d := by
  unfold D.houseB at h
  split at h
  · rename_i x a b q
    simp only [Bool.and_eq_true, decide_eq_true_eq, Bool.not_eq_true', decide_eq_false_iff_not] at h
    obtain ⟨⟨q1, q3⟩, wa, wb, l1, l2, l3⟩ := h
    obtain ⟨la, aa, rfl⟩ := wkZ_of wa
    obtain ⟨lb, ab, rfl⟩ := wkZ_of wb
    obtain ⟨s, rfl⟩ := Int.eq_ofNat_of_zero_le (show 0 ≤ q by omega)
    rw [wk_length] at l1 l2
    rw [wk_length, wk_length] at l3
    refine ⟨⟨la, lb, s⟩, ⟨aa, ab, fun z => l1 (by rw [show la = [] from z]; rfl), fun z => l2 (by rw [show lb = [] from z]; rfl), (by show 1 ≤ s; omega), (by show s ≤ 3; omega), ?_⟩, rfl⟩
    have : ((s * lb.length : Nat) : Int) = (s : Int) * (lb.length : Nat) := by push_cast; rfl
    rw [← this] at l3
    exact Int.ofNat_le.mp l3
  · cases h
theorem Hs.good {h : Hs} (ok : h.Ok) : h.d.goodB 1 = true := by
  have h1 := ok.aw.len
  have h2 := ok.ar.len
  have g : ∀ {l : List Nat}, Asc l → (D.str (wk l)).goodB 0 = true := fun {l} ha => by
    show (decide ((wk l).length ≤ 1000) && (wk l).cps.all (· < 0x110000)) = true
    have := ha.len
    rw [wk_length, decide_eq_true (by omega), Bool.true_and]
    rw [Array.all_eq_true_iff_forall_mem]
    intro c hc
    have hc' : c ∈ (wk l).cps.toList := by simpa using hc
    simp only [wk, List.mem_map] at hc'
    obtain ⟨d, hd, rfl⟩ := hc'
    have := ha.2 d hd
    exact decide_eq_true (by omega)
  show (decide (3 ≤ 1000) && [D.str (wk h.work), D.str (wk h.run), D.int (h.speed : Int)].all (D.goodB 0)) = true
  rw [List.all_cons, List.all_cons, g ok.aw, g ok.ar]; rfl
theorem wk_inj {a b : List Nat} (h : wk a = wk b) : a = b := by
  have e : (wk a).cps.toList = (wk b).cps.toList := by rw [h]
  have e2 : a.map (fun d => 48 + d) = b.map (fun d => 48 + d) := by simpa [wk] using e
  have e3 := congrArg (List.map fun c => c - 48) e2
  simpa [List.map_map, Function.comp_def] using e3
theorem Hs.d_inj {g h : Hs} (e : g.d = h.d) : g = h := by
  obtain ⟨a, b, s⟩ := g
  obtain ⟨a', b', s'⟩ := h
  have e1 := D.tup.inj e
  simp only [List.cons.injEq, D.str.injEq, D.int.injEq, and_true] at e1
  obtain ⟨h1, h2, h3⟩ := e1
  rw [wk_inj h1, wk_inj h2, show s = s' from by omega]
def S_house_text : DSp := fun ds M Q R => ∃ x : D, x.fine2 ∧ ds = [x] ∧ (∀ h : Hs, h.Ok → x = h.d → Q (.str (hTxt h)) M) ∧ (x.houseB = false → R (.mk "InvalidHouse" none) M)
def t_house_text : DTS := dSeq (dDrop (dCall S_need_house (dCons (dVar 0) (dNil)))) (dRet (dCall S_text_of (dCons (dVar 0) (dNil))))
theorem kp_house_text : Keeps S_house_text 1 t_house_text := by
  rintro ds M Q R ⟨x, hf, rfl, q1, q2⟩
  simp only [t_house_text, dVar, dC, dOp, dUn, dTst, dAnd, dOr, dNot, dAndV, dOrV, dNotV, dIfE, dNil, dCons, dTup, dLst, dNew, dCall, dB, dChain, dNext, dSeq, dDrop, dRet, dRetN, dIf, dAsg, gN, gSeq, gT, dPar2, dPar3, dAug, dRaise, dFor, dYes, dLc, dels, del, put, nth, startN, dFrz, dIx, dPart, dNoP, dSl, dApp, dPut, dM1, dFmt, dJs, dJoined, dIsi, dRg1, dRg2, dLsI, dTpI, dStI, dZip, dEnL, dLsRg1, dLsRg2, dNewK, dNewT, dOneT, dSetSort, dLsZip, dNewCan, oAdd, oSub, oMul, oDiv, oMod, oPow, oLt, oLe, oGt, oGe, oIs, oIsNot, oNeg, oIAdd, D.isN, bLen, bInt, bStr, bAbs, bBool, bList, bTuple, D.ty, D.isInt, D.isBool, D.isStr, D.isTup, D.isLst, List.map_cons, List.map_nil, List.length_cons, List.length_nil, List.replicate_succ, List.replicate_zero, List.cons_append, List.nil_append, Option.isSome_some, if_true, if_false, Bool.false_eq_true, reduceIte, Nat.reduceAdd, Nat.reduceSub, Bool.not_true, Bool.not_false, true_and, and_true]
  refine ⟨x, hf, rfl, fun hb => ?_, fun hb => fg_self (q2 hb)⟩
  obtain ⟨h, ok, rfl⟩ := houseB_h hb
  exact ⟨h, ok, rfl, fg_self (q1 h ok rfl)⟩
/-- what read_house may make of a value -/
def rdX : D → D
  | .str z => rdL z.cps.toList
  | _ => .tup []
def S_read_house : DSp := fun ds M Q R => ∃ x : D, x.ty.isSome = true ∧ (∀ z, x = .str z → z.length ≤ 1000) ∧ ds = [x] ∧ ((rdX x).houseB = true → Q (rdX x) M) ∧ ((rdX x).houseB = false → R (.mk "InvalidText" none) M)
def t_read_house : DTS := dSeq (dAsg (dIfE (dTst (dIsi D.isStr (dVar 0))) (dCall S_house_in (dCons (dVar 0) (dNil))) (dTup (dNil))) (gN 1)) (dSeq (dIf (dNot (dTst (dCall S_is_house (dCons (dVar 1) (dNil))))) (dRaise "InvalidText") (dNext)) (dRet (dVar 1)))
theorem rdL_cases (l : List Nat) : rdL l = .tup [] ∨ ∃ a r e : List Nat, l = a ++ 47 :: (r ++ 42 :: e) ∧ 47 ∉ a ∧ 47 ∉ r ++ 42 :: e ∧ 42 ∉ r ∧ 42 ∉ e ∧ (e = [49] ∨ e = [50] ∨ e = [51]) ∧ rdL l = .tup [.str (SX.S a), .str (SX.S r), .int ((e.headD 0 - 48 : Nat) : Int)] := by
  unfold rdL
  split
  · rename_i a b hab
    obtain ⟨rfl, ha, hb⟩ := sp1_two.mp hab
    split
    · rename_i r e hre
      obtain ⟨rfl, hr, he⟩ := sp1_two.mp hre
      by_cases h : e = [49] ∨ e = [50] ∨ e = [51]
      · exact .inr ⟨a, r, e, rfl, ha, hb, hr, he, h, if_pos h⟩
      · exact .inl (if_neg h)
    · exact .inl rfl
  · exact .inl rfl
theorem rdL_fine2 {l : List Nat} (h : l.length ≤ 1000) : (rdL l).fine2 := by
  rcases rdL_cases l with e | ⟨a, r, e, rfl, _, _, _, _, _, e2⟩
  · rw [e]; exact ⟨⟨rfl, fun z e => by cases e⟩, fun ds e => by cases e; exact ⟨by decide, fun d hd => by cases hd⟩⟩
  · rw [e2]
    simp only [List.length_append, List.length_cons] at h
    refine ⟨⟨rfl, fun z e => by cases e⟩, fun ds e => ?_⟩
    cases e
    refine ⟨by show 3 ≤ 100000; decide, fun d hd => ?_⟩
    simp only [List.mem_cons, List.not_mem_nil, or_false] at hd
    rcases hd with rfl | rfl | rfl
    · exact ⟨rfl, fun z e => by cases e; rw [S_len]; omega⟩
    · exact ⟨rfl, fun z e => by cases e; rw [S_len]; omega⟩
    · exact ⟨rfl, fun z e => by cases e⟩
theorem fine2_nil : (D.tup []).fine2 := ⟨⟨rfl, fun z e => by cases e⟩, fun ds e => by cases e; exact ⟨by decide, fun d hd => by cases hd⟩⟩
theorem kp_read_house : Keeps S_read_house 2 t_read_house := by
  rintro ds M Q R ⟨x, ht, hl, rfl, q1, q2⟩
  cases x with
  | str z =>
    have hz := hl z rfl
    simp only [t_read_house, dVar, dC, dOp, dUn, dTst, dAnd, dOr, dNot, dAndV, dOrV, dNotV, dIfE, dNil, dCons, dTup, dLst, dNew, dCall, dB, dChain, dNext, dSeq, dDrop, dRet, dRetN, dIf, dAsg, gN, gSeq, gT, dPar2, dPar3, dAug, dRaise, dFor, dYes, dLc, dels, del, put, nth, startN, dFrz, dIx, dPart, dNoP, dSl, dApp, dPut, dM1, dFmt, dJs, dJoined, dIsi, dRg1, dRg2, dLsI, dTpI, dStI, dZip, dEnL, dLsRg1, dLsRg2, dNewK, dNewT, dOneT, dSetSort, dLsZip, dNewCan, oAdd, oSub, oMul, oDiv, oMod, oPow, oLt, oLe, oGt, oGe, oIs, oIsNot, oNeg, oIAdd, D.isN, bLen, bInt, bStr, bAbs, bBool, bList, bTuple, D.ty, D.isInt, D.isBool, D.isStr, D.isTup, D.isLst, List.map_cons, List.map_nil, List.length_cons, List.length_nil, List.replicate_succ, List.replicate_zero, List.cons_append, List.nil_append, Option.isSome_some, if_true, if_false, Bool.false_eq_true, reduceIte, Nat.reduceAdd, Nat.reduceSub, Bool.not_true, Bool.not_false, true_and, and_true]
    refine ⟨z, hz, rfl, _, rdL_fine2 (by rw [← str_len]; exact hz), rfl, ?_⟩
    dsimp only
    cases hb : (rdL z.cps.toList).houseB with
    | true => simp only [dVar, dC, dOp, dUn, dTst, dAnd, dOr, dNot, dAndV, dOrV, dNotV, dIfE, dNil, dCons, dTup, dLst, dNew, dCall, dB, dChain, dNext, dSeq, dDrop, dRet, dRetN, dIf, dAsg, gN, gSeq, gT, dPar2, dPar3, dAug, dRaise, dFor, dYes, dLc, dels, del, put, nth, startN, dFrz, dIx, dPart, dNoP, dSl, dApp, dPut, dM1, dFmt, dJs, dJoined, dIsi, dRg1, dRg2, dLsI, dTpI, dStI, dZip, dEnL, dLsRg1, dLsRg2, dNewK, dNewT, dOneT, dSetSort, dLsZip, dNewCan, oAdd, oSub, oMul, oDiv, oMod, oPow, oLt, oLe, oGt, oGe, oIs, oIsNot, oNeg, oIAdd, D.isN, bLen, bInt, bStr, bAbs, bBool, bList, bTuple, D.ty, D.isInt, D.isBool, D.isStr, D.isTup, D.isLst, List.map_cons, List.map_nil, List.length_cons, List.length_nil, List.replicate_succ, List.replicate_zero, List.cons_append, List.nil_append, Option.isSome_some, if_true, if_false, Bool.false_eq_true, reduceIte, Nat.reduceAdd, Nat.reduceSub, Bool.not_true, Bool.not_false, true_and, and_true]; exact fg_self (q1 hb)
    | false => simp only [dVar, dC, dOp, dUn, dTst, dAnd, dOr, dNot, dAndV, dOrV, dNotV, dIfE, dNil, dCons, dTup, dLst, dNew, dCall, dB, dChain, dNext, dSeq, dDrop, dRet, dRetN, dIf, dAsg, gN, gSeq, gT, dPar2, dPar3, dAug, dRaise, dFor, dYes, dLc, dels, del, put, nth, startN, dFrz, dIx, dPart, dNoP, dSl, dApp, dPut, dM1, dFmt, dJs, dJoined, dIsi, dRg1, dRg2, dLsI, dTpI, dStI, dZip, dEnL, dLsRg1, dLsRg2, dNewK, dNewT, dOneT, dSetSort, dLsZip, dNewCan, oAdd, oSub, oMul, oDiv, oMod, oPow, oLt, oLe, oGt, oGe, oIs, oIsNot, oNeg, oIAdd, D.isN, bLen, bInt, bStr, bAbs, bBool, bList, bTuple, D.ty, D.isInt, D.isBool, D.isStr, D.isTup, D.isLst, List.map_cons, List.map_nil, List.length_cons, List.length_nil, List.replicate_succ, List.replicate_zero, List.cons_append, List.nil_append, Option.isSome_some, if_true, if_false, Bool.false_eq_true, reduceIte, Nat.reduceAdd, Nat.reduceSub, Bool.not_true, Bool.not_false, true_and, and_true]; exact fg_self (q2 hb)
  | scr _ => cases ht
  | fn _ => cases ht
  | obj _ => cases ht
  | _ =>
    simp only [t_read_house, dVar, dC, dOp, dUn, dTst, dAnd, dOr, dNot, dAndV, dOrV, dNotV, dIfE, dNil, dCons, dTup, dLst, dNew, dCall, dB, dChain, dNext, dSeq, dDrop, dRet, dRetN, dIf, dAsg, gN, gSeq, gT, dPar2, dPar3, dAug, dRaise, dFor, dYes, dLc, dels, del, put, nth, startN, dFrz, dIx, dPart, dNoP, dSl, dApp, dPut, dM1, dFmt, dJs, dJoined, dIsi, dRg1, dRg2, dLsI, dTpI, dStI, dZip, dEnL, dLsRg1, dLsRg2, dNewK, dNewT, dOneT, dSetSort, dLsZip, dNewCan, oAdd, oSub, oMul, oDiv, oMod, oPow, oLt, oLe, oGt, oGe, oIs, oIsNot, oNeg, oIAdd, D.isN, bLen, bInt, bStr, bAbs, bBool, bList, bTuple, D.ty, D.isInt, D.isBool, D.isStr, D.isTup, D.isLst, List.map_cons, List.map_nil, List.length_cons, List.length_nil, List.replicate_succ, List.replicate_zero, List.cons_append, List.nil_append, Option.isSome_some, if_true, if_false, Bool.false_eq_true, reduceIte, Nat.reduceAdd, Nat.reduceSub, Bool.not_true, Bool.not_false, true_and, and_true]
    refine ⟨by decide, _, fine2_nil, rfl, ?_⟩
    exact fg_self (q2 rfl)
end Dl
namespace Dl
open PySem
/-! # a text's signs, counted and found -/
theorem occ_gen (x sub : Str) (hi lim : Nat) (p : Nat → Bool) (hp : ∀ i, (i + sub.length ≤ hi ∧ Builtin.Str.subAt x sub i = true) ↔ p i = true) (h1 : sub.length = 1) : ∀ (l : List Nat) (acc : Array Nat) (free : Nat), l.Pairwise (· < ·) → (∀ i ∈ l, free ≤ i) →
    (forIn l (acc, free) (StrLaws.occBody x sub hi lim)).run.fst.toList = acc.toList ++ (l.filter p).take (lim - acc.size)
  | [], acc, free, _, _ => by simp
  | a :: l, acc, free, pw, hf => by
    obtain ⟨pw1, pw2⟩ := List.pairwise_cons.mp pw
    rw [List.forIn_cons]
    unfold StrLaws.occBody
    have ha := hf a (List.mem_cons_self ..)
    by_cases hc : p a = true
    · have hc' := (hp a).mpr hc
      by_cases hs : acc.size < lim
      · rw [if_pos ⟨⟨⟨hs, ha⟩, hc'.1⟩, hc'.2⟩]
        have ih := occ_gen x sub hi lim p hp h1 l (acc.push a) (a + sub.length) pw2 fun i hi' => by have := pw1 i hi'; omega
        refine Eq.trans ih ?_
        rw [List.filter_cons_of_pos hc, Array.size_push, Array.toList_push, List.append_assoc]
        have e : lim - acc.size = (lim - (acc.size + 1)) + 1 := by omega
        rw [e, List.take_succ_cons]; rfl
      · rw [if_neg fun z => hs z.1.1.1]
        have ih := occ_gen x sub hi lim p hp h1 l acc free pw2 fun i hi' => hf i (List.mem_cons_of_mem _ hi')
        refine Eq.trans ih ?_
        have e : lim - acc.size = 0 := by omega
        rw [e, List.take_zero, List.take_zero]
    · rw [if_neg fun z => hc ((hp a).mp ⟨z.1.2, z.2⟩)]
      have ih := occ_gen x sub hi lim p hp h1 l acc free pw2 fun i hi' => hf i (List.mem_cons_of_mem _ hi')
      refine Eq.trans ih ?_
      rw [List.filter_cons_of_neg hc]
theorem occ_one (x : Str) (c lim : Nat) : Builtin.Str.occurrences x ⟨#[c]⟩ 0 x.length lim = ((List.range (x.length + 1)).filter fun i => decide (x.cps.toList[i]? = some c)).take lim := by
  rw [StrLaws.occ_eq, occ_gen x ⟨#[c]⟩ x.length lim (fun i => decide (x.cps.toList[i]? = some c)) (fun i => by rw [decide_eq_true_eq]; exact StrLaws.subAt_one x c i) rfl _ #[] 0]
  · rw [List.range_eq_range']; simp
  · exact List.pairwise_lt_range' ..
  · exact fun i _ => Nat.zero_le _
theorem filt_count (c : Nat) : ∀ (l : List Nat) (n : Nat), l.length ≤ n → ((List.range n).filter fun i => decide (l[i]? = some c)).length = l.count c
  | [], n, _ => by simp
  | a :: l, 0, h => by simp at h
  | a :: l, n + 1, h => by
    have ih := filt_count c l n (by simpa using h)
    rw [List.range_succ_eq_map, List.filter_cons, List.filter_map, List.count_cons]
    have e : ((List.range n).filter ((fun i => decide ((a :: l)[i]? = some c)) ∘ Nat.succ)) = (List.range n).filter fun i => decide (l[i]? = some c) := rfl
    by_cases hc : a = c
    · subst hc
      rw [if_pos (by simp), List.length_cons, List.length_map, e, ih]
      simp
    · rw [if_neg (by simp [hc]), List.length_map, e, ih]
      simp [hc]
theorem count_one (x : Str) (c : Nat) : Txt.count x ⟨#[c]⟩ = ((x.cps.toList.count c : Nat) : Int) := by
  unfold Txt.count
  rw [occ_one, List.take_of_length_le (Nat.le_trans (List.length_filter_le ..) (by rw [List.length_range]; exact Nat.le_refl _)), filt_count _ _ _ (by rw [← str_len]; exact Nat.le_succ _)]
theorem index_one {x : Str} {c : Nat} {a b : List Nat} (h : x.cps.toList = a ++ c :: b) (ha : c ∉ a) : ∃ rest, Builtin.Str.occurrences x ⟨#[c]⟩ 0 x.length 1 = a.length :: rest := by
  rw [occ_one, h]
  have hl : x.length + 1 = a.length + (b.length + 2) := by rw [str_len, h]; simp; omega
  rw [hl, List.range_add, List.filter_append]
  have e1 : (List.range a.length).filter (fun i => decide ((a ++ c :: b)[i]? = some c)) = [] := by
    rw [List.filter_eq_nil_iff]
    intro i hi
    have hi' := List.mem_range.mp hi
    rw [decide_eq_true_eq, List.getElem?_append_left hi']
    intro z
    exact ha (List.mem_of_getElem? z)
  rw [e1, List.nil_append, List.range_succ_eq_map, List.map_cons, List.filter_cons, if_pos]
  · exact ⟨[], by simp⟩
  · rw [decide_eq_true_eq, Nat.add_zero, List.getElem?_append_right (Nat.le_refl _), Nat.sub_self]; rfl
theorem sIx_in {n d k : Nat} (h : k ≤ n) : HT.sIx n d (some (k : Int)) = k := by rw [HT.sIx_nat, Nat.min_eq_left h]
theorem cut_to {x : Str} {k : Nat} (h : k ≤ x.length) : L2.cutS x none (some (k : Int)) = SX.S (x.cps.toList.take k) := by
  unfold L2.cutS
  rw [HT.sIx_none, sIx_in h, List.drop_zero, Nat.sub_zero]
theorem cut_from {x : Str} {k : Nat} (h : k ≤ x.length) : L2.cutS x (some (k : Int)) none = SX.S (x.cps.toList.drop k) := by
  unfold L2.cutS
  rw [HT.sIx_none, sIx_in h, List.take_of_length_le (by rw [List.length_drop, ← str_len]; exact Nat.le_refl _)]
theorem cut_from_any (x : Str) (k : Nat) : L2.cutS x (some (k : Int)) none = SX.S (x.cps.toList.drop k) := by
  unfold L2.cutS
  rw [HT.sIx_none, HT.sIx_nat, List.take_of_length_le (by rw [List.length_drop, ← str_len]; omega)]
  by_cases h : k ≤ x.length
  · rw [Nat.min_eq_left h]
  · rw [Nat.min_eq_right (by omega), List.drop_of_length_le (by rw [← str_len]; exact Nat.le_refl _), List.drop_of_length_le (by rw [← str_len]; omega)]
end Dl
namespace Dl
open PySem
/-! # law k06 -/
def tbn : List Str := ["law"]
def readD (x : D) : D := if (rdX x).houseB = true then rdX x else .str ("text value" : Str)
def S_law_read : DSp := fun ds M Q R => ∃ (x : D) (n : Nat), x.goodB n = true ∧ ds = [x] ∧ Q (readD x) M
def t_law_read : DTS := dTryW word 1 (dRet (dCall S_read_house (dCons (dVar 0) (dNil))))
theorem kp_law_read : Keeps S_law_read 2 t_law_read := by
  rintro ds M Q R ⟨x, n, hg, rfl, q⟩
  simp only [t_law_read, dVar, dC, dOp, dUn, dTst, dAnd, dOr, dNot, dAndV, dOrV, dNotV, dIfE, dNil, dCons, dTup, dLst, dNew, dCall, dB, dChain, dNext, dSeq, dDrop, dRet, dRetN, dIf, dAsg, gN, gSeq, gT, dPar2, dPar3, dAug, dRaise, dFor, dYes, dLc, dels, del, put, nth, startN, dFrz, dIx, dPart, dNoP, dSl, dApp, dPut, dM1, dFmt, dJs, dJoined, dIsi, dRg1, dRg2, dLsI, dTpI, dStI, dZip, dEnL, dLsRg1, dLsRg2, dNewK, dNewT, dOneT, dSetSort, dLsZip, dNewCan, oAdd, oSub, oMul, oDiv, oMod, oPow, oLt, oLe, oGt, oGe, oIs, oIsNot, oNeg, oIAdd, D.isN, bLen, bInt, bStr, bAbs, bBool, bList, bTuple, D.ty, D.isInt, D.isBool, D.isStr, D.isTup, D.isLst, List.map_cons, List.map_nil, List.length_cons, List.length_nil, List.replicate_succ, List.replicate_zero, List.cons_append, List.nil_append, Option.isSome_some, if_true, if_false, Bool.false_eq_true, reduceIte, Nat.reduceAdd, Nat.reduceSub, Bool.not_true, Bool.not_false, true_and, and_true, dTryW]
  refine ⟨x, good_ty hg, fun z e => by subst e; exact good_str hg, rfl, fun hb => ?_, fun hb => ?_⟩
  · unfold readD at q
    rw [if_pos hb] at q
    exact fg_self q
  · unfold readD at q
    rw [if_neg (by rw [hb]; exact Bool.false_ne_true)] at q
    exact ⟨by decide, ("text value" : Str), by decide, fg_self q⟩
/-- a text that writes a house -/
theorem rd_valid {l : List Nat} (h : (rdL l).houseB = true) : ∃ (a r : List Nat) (d : Nat), l = a ++ 47 :: (r ++ [42, d]) ∧ 47 ∉ a ∧ 47 ∉ r ∧ 42 ∉ a ∧ 42 ∉ r ∧ (d = 49 ∨ d = 50 ∨ d = 51) ∧ a ≠ [] ∧ r ≠ [] := by
  rcases rdL_cases l with e | ⟨a, r, e, hl, ha, hb, hr, he, h3, e2⟩
  · rw [e] at h; cases h
  · rw [e2] at h
    simp only [D.houseB, Bool.and_eq_true, decide_eq_true_eq, Bool.not_eq_true', decide_eq_false_iff_not] at h
    obtain ⟨_, wa, wr, la, lr, _⟩ := h
    have na : 42 ∉ a := fun z => by
      unfold wkZ at wa
      rw [Bool.and_eq_true] at wa
      have := of_decide_eq_true (List.all_eq_true.mp wa.1 42 z)
      revert this; decide
    obtain ⟨d, rfl, hd⟩ : ∃ d, e = [d] ∧ (d = 49 ∨ d = 50 ∨ d = 51) := by
      rcases h3 with z | z | z
      · exact ⟨_, z, .inl rfl⟩
      · exact ⟨_, z, .inr (.inl rfl)⟩
      · exact ⟨_, z, .inr (.inr rfl)⟩
    exact ⟨a, r, d, hl, ha, fun z => hb (List.mem_append_left _ z), na, hr, hd, fun z => la (by rw [z]; rfl), fun z => lr (by rw [z]; rfl)⟩
/-- .. and back: such signs write the triple -/
theorem rd_of {a r : List Nat} {d : Nat} (h1 : 47 ∉ a) (h2 : 47 ∉ r) (h3 : 42 ∉ r) (hd : d = 49 ∨ d = 50 ∨ d = 51) : rdL (a ++ 47 :: (r ++ [42, d])) = .tup [.str (SX.S a), .str (SX.S r), .int ((d - 48 : Nat) : Int)] := by
  have hb : 47 ∉ r ++ [42, d] := fun z => by
    rcases List.mem_append.mp z with z | z
    · exact h2 z
    · simp only [List.mem_cons, List.not_mem_nil, or_false] at z; omega
  have e1 : sp1 47 (a ++ 47 :: (r ++ [42, d])) = [a, r ++ [42, d]] := sp1_two.mpr ⟨rfl, h1, hb⟩
  have e2 : sp1 42 (r ++ [42, d]) = [r, [d]] := sp1_two.mpr ⟨rfl, h3, fun z => by simp only [List.mem_cons, List.not_mem_nil, or_false] at z; omega⟩
  rw [rdL_ab e1, e2]
  have h4 : [d] = [49] ∨ [d] = [50] ∨ [d] = [51] := by
    rcases hd with z | z | z <;> subst z
    · exact .inl rfl
    · exact .inr (.inl rfl)
    · exact .inr (.inr rfl)
  exact if_pos h4
def S_law_due : DSp := fun ds M Q R => ∃ (x : D) (n : Nat), x.goodB n = true ∧ ds = [x] ∧ Q (readD x) M
def t_law_due : DTS := dSeq (dIf (dOr (dNot (dTst (dIsi D.isStr (dVar 0)))) (dOr (dTst (dOp oLt (dB bLen (dCons (dVar 0) (dNil))) (dC (.int 5)))) (dTst (dOp oNe (dOp dIx (dVar 0) (dUn oNeg (dC (.int 2)))) (dC (.str ("*" : Str))))))) (dRet (dC (.str ("text value" : Str)))) (dNext)) (dSeq (dIf (dOr (dTst (dOp oNe (dM1 mCount (dVar 0) (dC (.str ("/" : Str)))) (dC (.int 1)))) (dOr (dTst (dOp oNe (dM1 mCount (dVar 0) (dC (.str ("*" : Str)))) (dC (.int 1)))) (dTst (dOp (qIn true) (dOp dIx (dVar 0) (dUn oNeg (dC (.int 1)))) (dB bListS (dCons (dC (.str ("123" : Str))) dNil)))))) (dRet (dC (.str ("text value" : Str)))) (dNext)) (dSeq (dAsg (dM1 mIndex (dVar 0) (dC (.str ("/" : Str)))) (gN 1)) (dSeq (dAsg (dTup (dCons (dSl (dVar 0) (dNoP) (dPart (dVar 1))) (dCons (dSl (dVar 0) (dPart (dOp oAdd (dVar 1) (dC (.int 1)))) (dPart (dUn oNeg (dC (.int 2))))) (dCons (dB bInt (dCons (dOp dIx (dVar 0) (dUn oNeg (dC (.int 1)))) (dNil))) (dNil))))) (gN 2)) (dRet (dIfE (dTst (dCall S_law_good_house (dCons (dVar 2) (dNil)))) (dVar 2) (dC (.str ("text value" : Str))))))))
theorem readD_no {z : Str} (h : ¬ (rdL z.cps.toList).houseB = true) : readD (.str z) = .str ("text value" : Str) := if_neg h
theorem atI_neg {α : Type} {xs : List α} {k : Nat} (h : k < xs.length) : L2.atI xs (-((k + 1 : Nat) : Int)) = xs[xs.length - 1 - k]? := by
  unfold L2.atI L2.ixN
  rw [if_neg (by omega), if_pos (by omega)]
  show xs[(-((k + 1 : Nat) : Int) + (xs.length : Nat)).toNat]? = _
  congr 1
  omega
theorem good_one (c : Nat) (h : c < 0x110000) : (D.str ⟨#[c]⟩).goodB 0 = true := by
  show (decide ((⟨#[c]⟩ : Str).length ≤ 1000) && (#[c] : Array Nat).all (· < 0x110000)) = true
  simp [Str.length, h]
theorem good_cs {z : Str} {n : Nat} (h : (D.str z).goodB n = true) : ∀ c ∈ z.cps.toList, c < 0x110000 := by
  have h' : (decide (z.length ≤ 1000) && z.cps.all (· < 0x110000)) = true := by cases n <;> exact h
  rw [Bool.and_eq_true] at h'
  intro c hc
  exact of_decide_eq_true (Array.all_eq_true_iff_forall_mem.mp h'.2 c (by simpa using hc))
theorem any_ch (c : Nat) : ∀ l : List Nat, (D.str ⟨#[c]⟩).any (l.map fun c => D.str ⟨#[c]⟩) = decide (c ∈ l)
  | [] => rfl
  | a :: l => by
    rw [List.map_cons, D.any, any_ch c l, eqv_str]
    by_cases h : c = a
    · subst h; simp
    · have h1 : ¬ ((⟨#[a]⟩ : Str) = ⟨#[c]⟩) := fun z => h (by have := congrArg (fun y : Str => y.cps.toList) z; simpa using this.symm)
      rw [decide_eq_false h1]
      simp [h]
theorem flat_ch (l : List Nat) : (l.map fun c => D.str ⟨#[c]⟩).all D.flat = true := by
  rw [List.all_map, List.all_eq_true]; intro c _; rfl
theorem kp_law_due : Keeps S_law_due 3 t_law_due := by
  rintro ds M Q R ⟨x, n, hg, rfl, q⟩
  have hf := good_fine hg
  cases x with
  | str z =>
    have hz := good_str hg
    have hcs := good_cs hg
    have hl := str_len z
    simp only [t_law_due, dVar, dC, dOp, dUn, dTst, dAnd, dOr, dNot, dAndV, dOrV, dNotV, dIfE, dNil, dCons, dTup, dLst, dNew, dCall, dB, dChain, dNext, dSeq, dDrop, dRet, dRetN, dIf, dAsg, gN, gSeq, gT, dPar2, dPar3, dAug, dRaise, dFor, dYes, dLc, dels, del, put, nth, startN, dFrz, dIx, dPart, dNoP, dSl, dApp, dPut, dM1, dFmt, dJs, dJoined, dIsi, dRg1, dRg2, dLsI, dTpI, dStI, dZip, dEnL, dLsRg1, dLsRg2, dNewK, dNewT, dOneT, dSetSort, dLsZip, dNewCan, oAdd, oSub, oMul, oDiv, oMod, oPow, oLt, oLe, oGt, oGe, oIs, oIsNot, oNeg, oIAdd, D.isN, bLen, bInt, bStr, bAbs, bBool, bList, bTuple, D.ty, D.isInt, D.isBool, D.isStr, D.isTup, D.isLst, List.map_cons, List.map_nil, List.length_cons, List.length_nil, List.replicate_succ, List.replicate_zero, List.cons_append, List.nil_append, Option.isSome_some, if_true, if_false, Bool.false_eq_true, reduceIte, Nat.reduceAdd, Nat.reduceSub, Bool.not_true, Bool.not_false, true_and, and_true, oNeg, mCount]
    refine ⟨by omega, ?_⟩
    by_cases h5 : z.length < 5
    · rw [decide_eq_true (show ((z.length : Nat) : Int) < 5 by omega)]
      simp only [dVar, dC, dOp, dUn, dTst, dAnd, dOr, dNot, dAndV, dOrV, dNotV, dIfE, dNil, dCons, dTup, dLst, dNew, dCall, dB, dChain, dNext, dSeq, dDrop, dRet, dRetN, dIf, dAsg, gN, gSeq, gT, dPar2, dPar3, dAug, dRaise, dFor, dYes, dLc, dels, del, put, nth, startN, dFrz, dIx, dPart, dNoP, dSl, dApp, dPut, dM1, dFmt, dJs, dJoined, dIsi, dRg1, dRg2, dLsI, dTpI, dStI, dZip, dEnL, dLsRg1, dLsRg2, dNewK, dNewT, dOneT, dSetSort, dLsZip, dNewCan, oAdd, oSub, oMul, oDiv, oMod, oPow, oLt, oLe, oGt, oGe, oIs, oIsNot, oNeg, oIAdd, D.isN, bLen, bInt, bStr, bAbs, bBool, bList, bTuple, D.ty, D.isInt, D.isBool, D.isStr, D.isTup, D.isLst, List.map_cons, List.map_nil, List.length_cons, List.length_nil, List.replicate_succ, List.replicate_zero, List.cons_append, List.nil_append, Option.isSome_some, if_true, if_false, Bool.false_eq_true, reduceIte, Nat.reduceAdd, Nat.reduceSub, Bool.not_true, Bool.not_false, true_and, and_true]
      rw [readD_no] at q
      · exact fg_self q
      · intro hb
        obtain ⟨a, r, d, e, _, _, _, _, _, ha, hr⟩ := rd_valid hb
        have := List.length_pos_iff.mpr ha
        have := List.length_pos_iff.mpr hr
        rw [e] at hl
        simp only [List.length_append, List.length_cons, List.length_nil] at hl
        omega
    · rw [decide_eq_false (show ¬ ((z.length : Nat) : Int) < 5 by omega)]
      simp only [dVar, dC, dOp, dUn, dTst, dAnd, dOr, dNot, dAndV, dOrV, dNotV, dIfE, dNil, dCons, dTup, dLst, dNew, dCall, dB, dChain, dNext, dSeq, dDrop, dRet, dRetN, dIf, dAsg, gN, gSeq, gT, dPar2, dPar3, dAug, dRaise, dFor, dYes, dLc, dels, del, put, nth, startN, dFrz, dIx, dPart, dNoP, dSl, dApp, dPut, dM1, dFmt, dJs, dJoined, dIsi, dRg1, dRg2, dLsI, dTpI, dStI, dZip, dEnL, dLsRg1, dLsRg2, dNewK, dNewT, dOneT, dSetSort, dLsZip, dNewCan, oAdd, oSub, oMul, oDiv, oMod, oPow, oLt, oLe, oGt, oGe, oIs, oIsNot, oNeg, oIAdd, D.isN, bLen, bInt, bStr, bAbs, bBool, bList, bTuple, D.ty, D.isInt, D.isBool, D.isStr, D.isTup, D.isLst, List.map_cons, List.map_nil, List.length_cons, List.length_nil, List.replicate_succ, List.replicate_zero, List.cons_append, List.nil_append, Option.isSome_some, if_true, if_false, Bool.false_eq_true, reduceIte, Nat.reduceAdd, Nat.reduceSub, Bool.not_true, Bool.not_false, true_and, and_true]
      generalize hL : z.cps.toList = l at *
      have h2 : l.length - 1 - 1 < l.length := by omega
      have h1 : l.length - 1 - 0 < l.length := by omega
      obtain ⟨c2, e2⟩ : ∃ c, l[l.length - 1 - 1]? = some c := ⟨_, List.getElem?_eq_getElem h2⟩
      obtain ⟨c1, e1⟩ : ∃ c, l[l.length - 1 - 0]? = some c := ⟨_, List.getElem?_eq_getElem h1⟩
      have m2 := hcs c2 (List.mem_of_getElem? e2)
      have m1 := hcs c1 (List.mem_of_getElem? e1)
      have a2 : L2.atI l (-2) = some c2 := (atI_neg (k := 1) (by omega)).trans e2
      have a1 : L2.atI l (-1) = some c1 := (atI_neg (k := 0) (by omega)).trans e1
      rw [show ("*" : Str) = ⟨#[42]⟩ from rfl, show ("/" : Str) = ⟨#[47]⟩ from rfl]
      refine ⟨_, _, by omega, rfl, a2, good_ok (good_one c2 m2) (by decide), good_ok (good_one 42 (by decide)) (by decide), ?_⟩
      rw [eqv_str]
      have vals : ∀ {a r : List Nat} {d : Nat}, l = a ++ 47 :: (r ++ [42, d]) → c2 = 42 ∧ c1 = d := fun {a r d} e => by
        subst e
        have el : (a ++ 47 :: (r ++ [42, d])).length = a.length + r.length + 3 := by simp; omega
        rw [el] at e1 e2
        have q1 : (a ++ 47 :: (r ++ [42, d]))[a.length + r.length + 3 - 1 - 1]? = some 42 := by
          rw [List.getElem?_append_right (by omega), show a.length + r.length + 3 - 1 - 1 - a.length = r.length + 1 by omega, List.getElem?_cons_succ, List.getElem?_append_right (Nat.le_refl _), Nat.sub_self]; rfl
        have q2 : (a ++ 47 :: (r ++ [42, d]))[a.length + r.length + 3 - 1 - 0]? = some d := by
          rw [List.getElem?_append_right (by omega), show a.length + r.length + 3 - 1 - 0 - a.length = (r.length + 1) + 1 by omega, List.getElem?_cons_succ, List.getElem?_append_right (by omega), show r.length + 1 - r.length = 1 by omega]; rfl
        rw [q1] at e2
        rw [q2] at e1
        exact ⟨(Option.some.inj e2).symm, (Option.some.inj e1).symm⟩
      by_cases h42 : c2 = 42
      · subst h42
        rw [decide_eq_true rfl]
        simp only [dVar, dC, dOp, dUn, dTst, dAnd, dOr, dNot, dAndV, dOrV, dNotV, dIfE, dNil, dCons, dTup, dLst, dNew, dCall, dB, dChain, dNext, dSeq, dDrop, dRet, dRetN, dIf, dAsg, gN, gSeq, gT, dPar2, dPar3, dAug, dRaise, dFor, dYes, dLc, dels, del, put, nth, startN, dFrz, dIx, dPart, dNoP, dSl, dApp, dPut, dM1, dFmt, dJs, dJoined, dIsi, dRg1, dRg2, dLsI, dTpI, dStI, dZip, dEnL, dLsRg1, dLsRg2, dNewK, dNewT, dOneT, dSetSort, dLsZip, dNewCan, oAdd, oSub, oMul, oDiv, oMod, oPow, oLt, oLe, oGt, oGe, oIs, oIsNot, oNeg, oIAdd, D.isN, bLen, bInt, bStr, bAbs, bBool, bList, bTuple, D.ty, D.isInt, D.isBool, D.isStr, D.isTup, D.isLst, List.map_cons, List.map_nil, List.length_cons, List.length_nil, List.replicate_succ, List.replicate_zero, List.cons_append, List.nil_append, Option.isSome_some, if_true, if_false, Bool.false_eq_true, reduceIte, Nat.reduceAdd, Nat.reduceSub, Bool.not_true, Bool.not_false, true_and, and_true]
        refine ⟨_, rfl, _, rfl, ok_int _, ok_int _, ?_⟩
        rw [eqv_int, count_one, hL]
        have noq : ¬ (rdL l).houseB = true → Q (.str ("text value" : Str)) M := fun h => by
          rw [readD_no (by rw [hL]; exact h)] at q; exact q
        by_cases k47 : l.count 47 = 1
        · rw [decide_eq_true (show ((l.count 47 : Nat) : Int) = 1 by omega)]
          simp only [dVar, dC, dOp, dUn, dTst, dAnd, dOr, dNot, dAndV, dOrV, dNotV, dIfE, dNil, dCons, dTup, dLst, dNew, dCall, dB, dChain, dNext, dSeq, dDrop, dRet, dRetN, dIf, dAsg, gN, gSeq, gT, dPar2, dPar3, dAug, dRaise, dFor, dYes, dLc, dels, del, put, nth, startN, dFrz, dIx, dPart, dNoP, dSl, dApp, dPut, dM1, dFmt, dJs, dJoined, dIsi, dRg1, dRg2, dLsI, dTpI, dStI, dZip, dEnL, dLsRg1, dLsRg2, dNewK, dNewT, dOneT, dSetSort, dLsZip, dNewCan, oAdd, oSub, oMul, oDiv, oMod, oPow, oLt, oLe, oGt, oGe, oIs, oIsNot, oNeg, oIAdd, D.isN, bLen, bInt, bStr, bAbs, bBool, bList, bTuple, D.ty, D.isInt, D.isBool, D.isStr, D.isTup, D.isLst, List.map_cons, List.map_nil, List.length_cons, List.length_nil, List.replicate_succ, List.replicate_zero, List.cons_append, List.nil_append, Option.isSome_some, if_true, if_false, Bool.false_eq_true, reduceIte, Nat.reduceAdd, Nat.reduceSub, Bool.not_true, Bool.not_false, true_and, and_true]
          refine ⟨_, rfl, _, rfl, ok_int _, ok_int _, ?_⟩
          rw [eqv_int, count_one, hL]
          by_cases k42 : l.count 42 = 1
          · rw [decide_eq_true (show ((l.count 42 : Nat) : Int) = 1 by omega)]
            simp only [dVar, dC, dOp, dUn, dTst, dAnd, dOr, dNot, dAndV, dOrV, dNotV, dIfE, dNil, dCons, dTup, dLst, dNew, dCall, dB, dChain, dNext, dSeq, dDrop, dRet, dRetN, dIf, dAsg, gN, gSeq, gT, dPar2, dPar3, dAug, dRaise, dFor, dYes, dLc, dels, del, put, nth, startN, dFrz, dIx, dPart, dNoP, dSl, dApp, dPut, dM1, dFmt, dJs, dJoined, dIsi, dRg1, dRg2, dLsI, dTpI, dStI, dZip, dEnL, dLsRg1, dLsRg2, dNewK, dNewT, dOneT, dSetSort, dLsZip, dNewCan, oAdd, oSub, oMul, oDiv, oMod, oPow, oLt, oLe, oGt, oGe, oIs, oIsNot, oNeg, oIAdd, D.isN, bLen, bInt, bStr, bAbs, bBool, bList, bTuple, D.ty, D.isInt, D.isBool, D.isStr, D.isTup, D.isLst, List.map_cons, List.map_nil, List.length_cons, List.length_nil, List.replicate_succ, List.replicate_zero, List.cons_append, List.nil_append, Option.isSome_some, if_true, if_false, Bool.false_eq_true, reduceIte, Nat.reduceAdd, Nat.reduceSub, Bool.not_true, Bool.not_false, true_and, and_true, bListS]
            refine ⟨_, _, by omega, rfl, a1, by decide, ⟨.inl ⟨rfl, flat_ch _⟩, ?_⟩⟩
            unfold chD
            rw [any_ch]
            have e123 : ("123" : Str).cps.toList = [49, 50, 51] := by decide
            rw [e123]
            by_cases hc : c1 ∈ [49, 50, 51]
            · rw [decide_eq_true hc]
              simp only [Bool.xor_true, Bool.not_true, dVar, dC, dOp, dUn, dTst, dAnd, dOr, dNot, dAndV, dOrV, dNotV, dIfE, dNil, dCons, dTup, dLst, dNew, dCall, dB, dChain, dNext, dSeq, dDrop, dRet, dRetN, dIf, dAsg, gN, gSeq, gT, dPar2, dPar3, dAug, dRaise, dFor, dYes, dLc, dels, del, put, nth, startN, dFrz, dIx, dPart, dNoP, dSl, dApp, dPut, dM1, dFmt, dJs, dJoined, dIsi, dRg1, dRg2, dLsI, dTpI, dStI, dZip, dEnL, dLsRg1, dLsRg2, dNewK, dNewT, dOneT, dSetSort, dLsZip, dNewCan, oAdd, oSub, oMul, oDiv, oMod, oPow, oLt, oLe, oGt, oGe, oIs, oIsNot, oNeg, oIAdd, D.isN, bLen, bInt, bStr, bAbs, bBool, bList, bTuple, D.ty, D.isInt, D.isBool, D.isStr, D.isTup, D.isLst, List.map_cons, List.map_nil, List.length_cons, List.length_nil, List.replicate_succ, List.replicate_zero, List.cons_append, List.nil_append, Option.isSome_some, if_true, if_false, Bool.false_eq_true, reduceIte, Nat.reduceAdd, Nat.reduceSub, Bool.not_true, Bool.not_false, true_and, and_true]
              have hd : c1 = 49 ∨ c1 = 50 ∨ c1 = 51 := by simpa using hc
              have m47 : 47 ∈ l := List.count_pos_iff.mp (by omega)
              obtain ⟨a, b, hab, ha⟩ := first_of m47
              subst hab
              rw [List.count_append, List.count_cons_self] at k47
              have hb47 : 47 ∉ b := fun z => by have := List.count_pos_iff.mpr z; omega
              -- the last two signs lie in b
              have lb : 2 ≤ b.length := by
                simp only [List.length_append, List.length_cons] at e1 e2
                rcases Nat.lt_or_ge b.length 2 with z | z
                · exfalso
                  have hbl : b.length = 0 ∨ b.length = 1 := by omega
                  rcases hbl with hz0 | hz1
                  · have : b = [] := List.eq_nil_of_length_eq_zero hz0
                    subst this
                    rw [List.getElem?_append_right (by simp)] at e1
                    simp at e1
                    omega
                  · rw [hz1, List.getElem?_append_right (by omega)] at e2
                    simp at e2
                · exact z
              obtain ⟨r, x, y, rfl⟩ : ∃ (r : List Nat) (x y : Nat), b = r ++ [x, y] := by
                refine ⟨b.take (b.length - 2), b[b.length - 2], b[b.length - 1], ?_⟩
                apply List.ext_getElem
                · simp; omega
                · intro i h1 h2
                  rw [List.getElem_append]
                  split
                  · simp
                  · rename_i h3
                    simp at h3
                    have hi : i = b.length - 2 ∨ i = b.length - 1 := by omega
                    rcases hi with z | z <;> subst z
                    · simp [Nat.min_eq_left (show b.length - 2 ≤ b.length by omega)]
                    · simp [Nat.min_eq_left (show b.length - 2 ≤ b.length by omega), show b.length - 1 - (b.length - 2) = 1 by omega]
              have hxy : x = 42 ∧ y = c1 := by
                have el : (a ++ 47 :: (r ++ [x, y])).length = a.length + r.length + 3 := by simp; omega
                rw [el] at e1 e2
                rw [List.getElem?_append_right (by omega), show a.length + r.length + 3 - 1 - 1 - a.length = r.length + 1 by omega, List.getElem?_cons_succ, List.getElem?_append_right (Nat.le_refl _), Nat.sub_self] at e2
                rw [List.getElem?_append_right (by omega), show a.length + r.length + 3 - 1 - 0 - a.length = (r.length + 1) + 1 by omega, List.getElem?_cons_succ, List.getElem?_append_right (by omega), show r.length + 1 - r.length = 1 by omega] at e1
                exact ⟨Option.some.inj e2, Option.some.inj e1⟩
              obtain ⟨rfl, rfl⟩ := hxy
              have hr47 : 47 ∉ r := fun z => hb47 (List.mem_append_left _ z)
              have hr42 : 42 ∉ r := fun z => by
                have := List.count_pos_iff.mpr z
                simp only [List.count_append, List.count_cons, List.count_nil] at k42
                simp at k42
                omega
              obtain ⟨rest, hix⟩ := index_one hL ha
              simp only [mIndex]
              refine ⟨_, rfl, _, _, _, rfl, hix, ?_⟩
              have hzl : z.length = a.length + r.length + 3 := by rw [hl]; simp; omega
              have ea : L2.cutS z none (some (a.length : Int)) = SX.S a := by
                rw [cut_to (by omega), hL, List.take_left]
              have er : L2.cutS z (some ((a.length : Int) + 1)) (some (-2)) = SX.S r := by
                unfold L2.cutS
                have s1 : HT.sIx z.length 0 (some ((a.length : Int) + 1)) = a.length + 1 := by
                  have := sIx_in (n := z.length) (d := 0) (k := a.length + 1) (by omega)
                  exact this
                have s2 : HT.sIx z.length z.length (some (-2)) = z.length - 2 := by
                  show (if (-2 : Int) < 0 then ((-2 : Int) + (z.length : Nat)).toNat else min (-2 : Int).toNat z.length) = _
                  rw [if_pos (by decide)]; omega
                rw [s1, s2, hL]
                have e3 : (a ++ 47 :: (r ++ [42, y])).drop (a.length + 1) = r ++ [42, y] := by
                  rw [List.drop_append, List.drop_eq_nil_of_le (by omega), List.nil_append, show a.length + 1 - a.length = 1 by omega]; rfl
                rw [e3, show z.length - 2 - (a.length + 1) = r.length by omega, List.take_left]
              refine ⟨by omega, by omega, _, _, by omega, rfl, a1, ?_⟩
              rw [ea, er]
              have hi : PySem.intText? ⟨#[y]⟩ = some ((y - 48 : Nat) : Int) := int_e (e := [y]) (by
                rcases hd with z | z | z <;> subst z
                · exact .inl rfl
                · exact .inr (.inl rfl)
                · exact .inr (.inr rfl))
              have erd := rd_of ha hr47 hr42 hd
              have gS : ∀ s : List Nat, (∀ c ∈ s, c ∈ a ++ 47 :: (r ++ [42, y])) → s.length ≤ 1000 → (D.str (SX.S s)).goodB 0 = true := fun s hs hs2 => by
                show (decide ((SX.S s).length ≤ 1000) && (SX.S s).cps.all (· < 0x110000)) = true
                rw [S_len, decide_eq_true hs2, Bool.true_and, Array.all_eq_true_iff_forall_mem]
                intro c hc
                exact decide_eq_true (hcs c (hs c (by simpa using hc)))
              have gt : (D.tup [.str (SX.S a), .str (SX.S r), .int ((y - 48 : Nat) : Int)]).goodB 1 = true := by
                show (decide (3 ≤ 1000) && [D.str (SX.S a), D.str (SX.S r), D.int ((y - 48 : Nat) : Int)].all (D.goodB 0)) = true
                rw [List.all_cons, List.all_cons, gS a (fun c hc => List.mem_append_left _ hc) (by omega), gS r (fun c hc => List.mem_append_right _ (List.mem_cons_of_mem _ (List.mem_append_left _ hc))) (by omega)]; rfl
              refine ⟨_, hi, by show 1 ≤ 640; decide, by show 3 ≤ 100000; decide, _, _, gt, rfl, ?_⟩
              dsimp only
              have erx : rdX (.str z) = .tup [.str (SX.S a), .str (SX.S r), .int ((y - 48 : Nat) : Int)] := by
                show rdL z.cps.toList = _
                rw [hL, erd]
              unfold readD at q
              rw [erx] at q
              cases hb : (D.tup [.str (SX.S a), .str (SX.S r), .int ((y - 48 : Nat) : Int)]).houseB with
              | true =>
                rw [hb, if_pos rfl] at q
                simp only [dVar, dC, dOp, dUn, dTst, dAnd, dOr, dNot, dAndV, dOrV, dNotV, dIfE, dNil, dCons, dTup, dLst, dNew, dCall, dB, dChain, dNext, dSeq, dDrop, dRet, dRetN, dIf, dAsg, gN, gSeq, gT, dPar2, dPar3, dAug, dRaise, dFor, dYes, dLc, dels, del, put, nth, startN, dFrz, dIx, dPart, dNoP, dSl, dApp, dPut, dM1, dFmt, dJs, dJoined, dIsi, dRg1, dRg2, dLsI, dTpI, dStI, dZip, dEnL, dLsRg1, dLsRg2, dNewK, dNewT, dOneT, dSetSort, dLsZip, dNewCan, oAdd, oSub, oMul, oDiv, oMod, oPow, oLt, oLe, oGt, oGe, oIs, oIsNot, oNeg, oIAdd, D.isN, bLen, bInt, bStr, bAbs, bBool, bList, bTuple, D.ty, D.isInt, D.isBool, D.isStr, D.isTup, D.isLst, List.map_cons, List.map_nil, List.length_cons, List.length_nil, List.replicate_succ, List.replicate_zero, List.cons_append, List.nil_append, Option.isSome_some, if_true, if_false, Bool.false_eq_true, reduceIte, Nat.reduceAdd, Nat.reduceSub, Bool.not_true, Bool.not_false, true_and, and_true]
                exact fg_self q
              | false =>
                rw [hb, if_neg Bool.false_ne_true] at q
                simp only [dVar, dC, dOp, dUn, dTst, dAnd, dOr, dNot, dAndV, dOrV, dNotV, dIfE, dNil, dCons, dTup, dLst, dNew, dCall, dB, dChain, dNext, dSeq, dDrop, dRet, dRetN, dIf, dAsg, gN, gSeq, gT, dPar2, dPar3, dAug, dRaise, dFor, dYes, dLc, dels, del, put, nth, startN, dFrz, dIx, dPart, dNoP, dSl, dApp, dPut, dM1, dFmt, dJs, dJoined, dIsi, dRg1, dRg2, dLsI, dTpI, dStI, dZip, dEnL, dLsRg1, dLsRg2, dNewK, dNewT, dOneT, dSetSort, dLsZip, dNewCan, oAdd, oSub, oMul, oDiv, oMod, oPow, oLt, oLe, oGt, oGe, oIs, oIsNot, oNeg, oIAdd, D.isN, bLen, bInt, bStr, bAbs, bBool, bList, bTuple, D.ty, D.isInt, D.isBool, D.isStr, D.isTup, D.isLst, List.map_cons, List.map_nil, List.length_cons, List.length_nil, List.replicate_succ, List.replicate_zero, List.cons_append, List.nil_append, Option.isSome_some, if_true, if_false, Bool.false_eq_true, reduceIte, Nat.reduceAdd, Nat.reduceSub, Bool.not_true, Bool.not_false, true_and, and_true]
                exact fg_self q
            · rw [decide_eq_false hc]
              simp only [Bool.xor_false, dVar, dC, dOp, dUn, dTst, dAnd, dOr, dNot, dAndV, dOrV, dNotV, dIfE, dNil, dCons, dTup, dLst, dNew, dCall, dB, dChain, dNext, dSeq, dDrop, dRet, dRetN, dIf, dAsg, gN, gSeq, gT, dPar2, dPar3, dAug, dRaise, dFor, dYes, dLc, dels, del, put, nth, startN, dFrz, dIx, dPart, dNoP, dSl, dApp, dPut, dM1, dFmt, dJs, dJoined, dIsi, dRg1, dRg2, dLsI, dTpI, dStI, dZip, dEnL, dLsRg1, dLsRg2, dNewK, dNewT, dOneT, dSetSort, dLsZip, dNewCan, oAdd, oSub, oMul, oDiv, oMod, oPow, oLt, oLe, oGt, oGe, oIs, oIsNot, oNeg, oIAdd, D.isN, bLen, bInt, bStr, bAbs, bBool, bList, bTuple, D.ty, D.isInt, D.isBool, D.isStr, D.isTup, D.isLst, List.map_cons, List.map_nil, List.length_cons, List.length_nil, List.replicate_succ, List.replicate_zero, List.cons_append, List.nil_append, Option.isSome_some, if_true, if_false, Bool.false_eq_true, reduceIte, Nat.reduceAdd, Nat.reduceSub, Bool.not_true, Bool.not_false, true_and, and_true]
              refine fg_self (noq fun hb => ?_)
              obtain ⟨a, r, d, e, _, _, _, _, hd, _, _⟩ := rd_valid hb
              obtain ⟨_, e3⟩ := vals e
              apply hc
              rw [e3]
              rcases hd with z | z | z <;> subst z <;> decide
          · rw [decide_eq_false (show ¬ ((l.count 42 : Nat) : Int) = 1 by omega)]
            simp only [dVar, dC, dOp, dUn, dTst, dAnd, dOr, dNot, dAndV, dOrV, dNotV, dIfE, dNil, dCons, dTup, dLst, dNew, dCall, dB, dChain, dNext, dSeq, dDrop, dRet, dRetN, dIf, dAsg, gN, gSeq, gT, dPar2, dPar3, dAug, dRaise, dFor, dYes, dLc, dels, del, put, nth, startN, dFrz, dIx, dPart, dNoP, dSl, dApp, dPut, dM1, dFmt, dJs, dJoined, dIsi, dRg1, dRg2, dLsI, dTpI, dStI, dZip, dEnL, dLsRg1, dLsRg2, dNewK, dNewT, dOneT, dSetSort, dLsZip, dNewCan, oAdd, oSub, oMul, oDiv, oMod, oPow, oLt, oLe, oGt, oGe, oIs, oIsNot, oNeg, oIAdd, D.isN, bLen, bInt, bStr, bAbs, bBool, bList, bTuple, D.ty, D.isInt, D.isBool, D.isStr, D.isTup, D.isLst, List.map_cons, List.map_nil, List.length_cons, List.length_nil, List.replicate_succ, List.replicate_zero, List.cons_append, List.nil_append, Option.isSome_some, if_true, if_false, Bool.false_eq_true, reduceIte, Nat.reduceAdd, Nat.reduceSub, Bool.not_true, Bool.not_false, true_and, and_true]
            refine fg_self (noq fun hb => k42 ?_)
            obtain ⟨a, r, d, e, _, _, h3, h4, hd, _, _⟩ := rd_valid hb
            have c1' : a.count 42 = 0 := List.count_eq_zero.mpr h3
            have c2' : r.count 42 = 0 := List.count_eq_zero.mpr h4
            rw [e, List.count_append, List.count_cons, List.count_append, c1', c2']
            rcases hd with z | z | z <;> subst z <;> decide
        · rw [decide_eq_false (show ¬ ((l.count 47 : Nat) : Int) = 1 by omega)]
          simp only [dVar, dC, dOp, dUn, dTst, dAnd, dOr, dNot, dAndV, dOrV, dNotV, dIfE, dNil, dCons, dTup, dLst, dNew, dCall, dB, dChain, dNext, dSeq, dDrop, dRet, dRetN, dIf, dAsg, gN, gSeq, gT, dPar2, dPar3, dAug, dRaise, dFor, dYes, dLc, dels, del, put, nth, startN, dFrz, dIx, dPart, dNoP, dSl, dApp, dPut, dM1, dFmt, dJs, dJoined, dIsi, dRg1, dRg2, dLsI, dTpI, dStI, dZip, dEnL, dLsRg1, dLsRg2, dNewK, dNewT, dOneT, dSetSort, dLsZip, dNewCan, oAdd, oSub, oMul, oDiv, oMod, oPow, oLt, oLe, oGt, oGe, oIs, oIsNot, oNeg, oIAdd, D.isN, bLen, bInt, bStr, bAbs, bBool, bList, bTuple, D.ty, D.isInt, D.isBool, D.isStr, D.isTup, D.isLst, List.map_cons, List.map_nil, List.length_cons, List.length_nil, List.replicate_succ, List.replicate_zero, List.cons_append, List.nil_append, Option.isSome_some, if_true, if_false, Bool.false_eq_true, reduceIte, Nat.reduceAdd, Nat.reduceSub, Bool.not_true, Bool.not_false, true_and, and_true]
          refine fg_self (noq fun hb => k47 ?_)
          obtain ⟨a, r, d, e, h1', h2', _, _, hd, _, _⟩ := rd_valid hb
          have c1' : a.count 47 = 0 := List.count_eq_zero.mpr h1'
          have c2' : r.count 47 = 0 := List.count_eq_zero.mpr h2'
          rw [e, List.count_append, List.count_cons, List.count_append, c1', c2']
          rcases hd with z | z | z <;> subst z <;> decide
      · have hne : ¬ ((⟨#[c2]⟩ : Str) = ⟨#[42]⟩) := fun y => h42 (by have := congrArg (fun y : Str => y.cps.toList) y; simpa using this)
        rw [decide_eq_false hne]
        simp only [dVar, dC, dOp, dUn, dTst, dAnd, dOr, dNot, dAndV, dOrV, dNotV, dIfE, dNil, dCons, dTup, dLst, dNew, dCall, dB, dChain, dNext, dSeq, dDrop, dRet, dRetN, dIf, dAsg, gN, gSeq, gT, dPar2, dPar3, dAug, dRaise, dFor, dYes, dLc, dels, del, put, nth, startN, dFrz, dIx, dPart, dNoP, dSl, dApp, dPut, dM1, dFmt, dJs, dJoined, dIsi, dRg1, dRg2, dLsI, dTpI, dStI, dZip, dEnL, dLsRg1, dLsRg2, dNewK, dNewT, dOneT, dSetSort, dLsZip, dNewCan, oAdd, oSub, oMul, oDiv, oMod, oPow, oLt, oLe, oGt, oGe, oIs, oIsNot, oNeg, oIAdd, D.isN, bLen, bInt, bStr, bAbs, bBool, bList, bTuple, D.ty, D.isInt, D.isBool, D.isStr, D.isTup, D.isLst, List.map_cons, List.map_nil, List.length_cons, List.length_nil, List.replicate_succ, List.replicate_zero, List.cons_append, List.nil_append, Option.isSome_some, if_true, if_false, Bool.false_eq_true, reduceIte, Nat.reduceAdd, Nat.reduceSub, Bool.not_true, Bool.not_false, true_and, and_true]
        rw [readD_no] at q
        · exact fg_self q
        · intro hb
          rw [hL] at hb
          obtain ⟨a, r, d, e, _, _, _, _, _, _, _⟩ := rd_valid hb
          exact h42 (vals e).1
  | scr _ => cases hf.1
  | fn _ => cases hf.1
  | obj _ => cases hf.1
  | _ => simp only [t_law_due, dVar, dC, dOp, dUn, dTst, dAnd, dOr, dNot, dAndV, dOrV, dNotV, dIfE, dNil, dCons, dTup, dLst, dNew, dCall, dB, dChain, dNext, dSeq, dDrop, dRet, dRetN, dIf, dAsg, gN, gSeq, gT, dPar2, dPar3, dAug, dRaise, dFor, dYes, dLc, dels, del, put, nth, startN, dFrz, dIx, dPart, dNoP, dSl, dApp, dPut, dM1, dFmt, dJs, dJoined, dIsi, dRg1, dRg2, dLsI, dTpI, dStI, dZip, dEnL, dLsRg1, dLsRg2, dNewK, dNewT, dOneT, dSetSort, dLsZip, dNewCan, oAdd, oSub, oMul, oDiv, oMod, oPow, oLt, oLe, oGt, oGe, oIs, oIsNot, oNeg, oIAdd, D.isN, bLen, bInt, bStr, bAbs, bBool, bList, bTuple, D.ty, D.isInt, D.isBool, D.isStr, D.isTup, D.isLst, List.map_cons, List.map_nil, List.length_cons, List.length_nil, List.replicate_succ, List.replicate_zero, List.cons_append, List.nil_append, Option.isSome_some, if_true, if_false, Bool.false_eq_true, reduceIte, Nat.reduceAdd, Nat.reduceSub, Bool.not_true, Bool.not_false, true_and, and_true]; exact fg_self q
end Dl
namespace Dl
open PySem
/-- the signs of a text are fit, and so many -/
def Fit (n : Nat) (z : Str) : Prop := z.length ≤ n ∧ ∀ c ∈ z.cps.toList, c < 0x110000
theorem Fit.good {n : Nat} {z : Str} (h : Fit n z) (hn : n ≤ 1000) : (D.str z).goodB 0 = true := by
  show (decide (z.length ≤ 1000) && z.cps.all (· < 0x110000)) = true
  rw [decide_eq_true (Nat.le_trans h.1 hn), Bool.true_and, Array.all_eq_true_iff_forall_mem]
  intro c hc
  exact decide_eq_true (h.2 c (by simpa using hc))
theorem Fit.S {n : Nat} {l : List Nat} (h1 : l.length ≤ n) (h2 : ∀ c ∈ l, c < 0x110000) : Fit n (SX.S l) := ⟨by rw [S_len]; exact h1, h2⟩
theorem app_list (a b : Str) : (a ++ b).cps.toList = a.cps.toList ++ b.cps.toList := by
  show (a.cps ++ b.cps).toList = _
  simp
theorem Fit.app {n m : Nat} {a b : Str} (h : Fit n a) (k : Fit m b) : Fit (n + m) (a ++ b) := ⟨by rw [len_app]; exact Nat.add_le_add h.1 k.1, fun c hc => by
  rw [app_list] at hc
  exact (List.mem_append.mp hc).elim (h.2 c) (k.2 c)⟩
theorem Fit.mono {n m : Nat} {a : Str} (h : Fit n a) (k : n ≤ m) : Fit m a := ⟨Nat.le_trans h.1 k, h.2⟩
theorem fit_wk {l : List Nat} (h : Asc l) : Fit 7 (wk l) := ⟨by rw [wk_length]; exact h.len, fun c hc => by
  simp only [wk, List.mem_map] at hc
  obtain ⟨d, hd, rfl⟩ := hc
  have := h.2 d hd
  omega⟩
def fitB (n : Nat) (z : Str) : Bool := decide (z.length ≤ n) && z.cps.toList.all fun c => decide (c < 0x110000)
theorem fit_of {n : Nat} {z : Str} (h : fitB n z = true) : Fit n z := by
  unfold fitB at h
  rw [Bool.and_eq_true] at h
  exact ⟨of_decide_eq_true h.1, fun c hc => of_decide_eq_true (List.all_eq_true.mp h.2 c hc)⟩
def D.fit1 : D → Bool
  | .str z => fitB 1 z
  | _ => false
theorem fit1_str {d : D} (h : d.fit1 = true) : ∃ z, d = .str z ∧ Fit 1 z := by
  cases d <;> first | cases h | exact ⟨_, rfl, fit_of h⟩
def S_law_spoilt : DSp := fun ds M Q R => ∃ (p : Nat) (z : Str) (n : Nat), mget M p = some .can ∧ n ≤ 100 ∧ Fit n z ∧ ds = [.obj p, .str z] ∧ ∀ y : Str, Fit (n + 1) y → Q (.str y) M
def t_law_spoilt : DTS := dSeq (dPar2 2 3 (dCons (dCall S_law_lift (dCons (dVar 0) (dCons (dOp oAdd (dB bLen (dCons (dVar 1) (dNil))) (dC (.int 1))) (dNil)))) (dCons (dCall S_law_lift (dCons (dVar 0) (dCons (dC (.int 4)) (dNil)))) (dNil)))) (dSeq (dIf (dTst (dOp oEq (dVar 3) (dC (.int 0)))) (dRet (dOp oAdd (dSl (dVar 1) (dNoP) (dPart (dVar 2))) (dSl (dVar 1) (dPart (dOp oAdd (dVar 2) (dC (.int 1)))) (dNoP)))) (dNext)) (dSeq (dIf (dTst (dOp oEq (dVar 3) (dC (.int 1)))) (dRet (dOp oAdd (dOp oAdd (dSl (dVar 1) (dNoP) (dPart (dVar 2))) (dCall S_law_pick (dCons (dVar 0) (dCons (dLst (dCons (dC (.str (" " : Str))) (dCons (dC (.str ("0" : Str))) (dCons (dC (.str ("1" : Str))) (dCons (dC (.str ("6" : Str))) (dCons (dC (.str ("7" : Str))) (dCons (dC (.str ("/" : Str))) (dCons (dC (.str ("*" : Str))) (dCons (dC (.str ("\n" : Str))) (dCons (dC (.str ("a" : Str))) (dNil))))))))))) (dNil))))) (dSl (dVar 1) (dPart (dVar 2)) (dNoP)))) (dNext)) (dSeq (dIf (dTst (dOp oEq (dVar 3) (dC (.int 2)))) (dRet (dOp oAdd (dSl (dVar 1) (dNoP) (dPart (dVar 2))) (dRev (dSl (dVar 1) (dPart (dVar 2)) (dNoP))))) (dNext)) (dRet (dOp oAdd (dOp oAdd (dSl (dVar 1) (dNoP) (dPart (dVar 2))) (dCall S_law_pick (dCons (dVar 0) (dCons (dLst (dCons (dC (.str ("0" : Str))) (dCons (dC (.str ("3" : Str))) (dCons (dC (.str ("/" : Str))) (dCons (dC (.str ("*" : Str))) (dCons (dC (.str ("9" : Str))) (dNil))))))) (dNil))))) (dSl (dVar 1) (dPart (dOp oAdd (dVar 2) (dC (.int 1)))) (dNoP)))))))
theorem kp_law_spoilt : Keeps S_law_spoilt 4 t_law_spoilt := by
  rintro ds M Q R ⟨p, z, n, hm, hn, hf, rfl, q⟩
  have hz : z.length ≤ 100 := Nat.le_trans hf.1 hn
  simp only [t_law_spoilt, dVar, dC, dOp, dUn, dTst, dAnd, dOr, dNot, dAndV, dOrV, dNotV, dIfE, dNil, dCons, dTup, dLst, dNew, dCall, dB, dChain, dNext, dSeq, dDrop, dRet, dRetN, dIf, dAsg, gN, gSeq, gT, dPar2, dPar3, dAug, dRaise, dFor, dYes, dLc, dels, del, put, nth, startN, dFrz, dIx, dPart, dNoP, dSl, dApp, dPut, dM1, dFmt, dJs, dJoined, dIsi, dRg1, dRg2, dLsI, dTpI, dStI, dZip, dEnL, dLsRg1, dLsRg2, dNewK, dNewT, dOneT, dSetSort, dLsZip, dNewCan, oAdd, oSub, oMul, oDiv, oMod, oPow, oLt, oLe, oGt, oGe, oIs, oIsNot, oNeg, oIAdd, D.isN, bLen, bInt, bStr, bAbs, bBool, bList, bTuple, D.ty, D.isInt, D.isBool, D.isStr, D.isTup, D.isLst, List.map_cons, List.map_nil, List.length_cons, List.length_nil, List.replicate_succ, List.replicate_zero, List.cons_append, List.nil_append, Option.isSome_some, if_true, if_false, Bool.false_eq_true, reduceIte, Nat.reduceAdd, Nat.reduceSub, Bool.not_true, Bool.not_false, true_and, and_true]
  refine ⟨by omega, lift_ok hm (by omega) (by rw [great_eq]; omega) fun r hr0 hr1 => ?_⟩
  refine lift_ok hm (by decide) (by decide) fun w hw0 hw1 => ?_
  obtain ⟨k, rfl⟩ := Int.eq_ofNat_of_zero_le hr0
  have hk : k ≤ z.length := by
    have : (k : Int) < (z.length : Nat) + 1 := hr1
    omega
  have f1 : Fit k (L2.cutS z none (some ((k : Nat) : Int))) := by
    rw [cut_to hk]
    exact Fit.S (by rw [List.length_take]; exact Nat.min_le_left _ _) fun c hc => hf.2 c (List.mem_of_mem_take hc)
  have f2 : Fit (z.length - k) (L2.cutS z (some ((k : Nat) : Int)) none) := by
    rw [cut_from hk]
    exact Fit.S (by rw [List.length_drop, ← str_len]; exact Nat.le_refl _) fun c hc => hf.2 c (List.mem_of_mem_drop hc)
  have f3 : Fit (z.length - k) (L2.cutS z (some ((k : Nat) + 1 : Int)) none) := by
    have e := cut_from_any z (k + 1)
    rw [show (((k + 1 : Nat)) : Int) = (k : Nat) + 1 by omega] at e
    rw [e]
    exact Fit.S (by rw [List.length_drop, ← str_len]; omega) fun c hc => hf.2 c (List.mem_of_mem_drop hc)
  have hzn := hf.1
  have a1 := f1.1
  have a2 := f2.1
  have a3 := f3.1
  dsimp only
  refine ⟨ok_int _, ok_int _, ?_⟩
  rw [eqv_int]
  by_cases h0 : w = 0
  · rw [decide_eq_true h0]
    simp only [dVar, dC, dOp, dUn, dTst, dAnd, dOr, dNot, dAndV, dOrV, dNotV, dIfE, dNil, dCons, dTup, dLst, dNew, dCall, dB, dChain, dNext, dSeq, dDrop, dRet, dRetN, dIf, dAsg, gN, gSeq, gT, dPar2, dPar3, dAug, dRaise, dFor, dYes, dLc, dels, del, put, nth, startN, dFrz, dIx, dPart, dNoP, dSl, dApp, dPut, dM1, dFmt, dJs, dJoined, dIsi, dRg1, dRg2, dLsI, dTpI, dStI, dZip, dEnL, dLsRg1, dLsRg2, dNewK, dNewT, dOneT, dSetSort, dLsZip, dNewCan, oAdd, oSub, oMul, oDiv, oMod, oPow, oLt, oLe, oGt, oGe, oIs, oIsNot, oNeg, oIAdd, D.isN, bLen, bInt, bStr, bAbs, bBool, bList, bTuple, D.ty, D.isInt, D.isBool, D.isStr, D.isTup, D.isLst, List.map_cons, List.map_nil, List.length_cons, List.length_nil, List.replicate_succ, List.replicate_zero, List.cons_append, List.nil_append, Option.isSome_some, if_true, if_false, Bool.false_eq_true, reduceIte, Nat.reduceAdd, Nat.reduceSub, Bool.not_true, Bool.not_false, true_and, and_true]
    exact ⟨by omega, by omega, by omega, fg_self (q _ ((f1.app f3).mono (by omega)))⟩
  · rw [decide_eq_false h0]
    simp only [dVar, dC, dOp, dUn, dTst, dAnd, dOr, dNot, dAndV, dOrV, dNotV, dIfE, dNil, dCons, dTup, dLst, dNew, dCall, dB, dChain, dNext, dSeq, dDrop, dRet, dRetN, dIf, dAsg, gN, gSeq, gT, dPar2, dPar3, dAug, dRaise, dFor, dYes, dLc, dels, del, put, nth, startN, dFrz, dIx, dPart, dNoP, dSl, dApp, dPut, dM1, dFmt, dJs, dJoined, dIsi, dRg1, dRg2, dLsI, dTpI, dStI, dZip, dEnL, dLsRg1, dLsRg2, dNewK, dNewT, dOneT, dSetSort, dLsZip, dNewCan, oAdd, oSub, oMul, oDiv, oMod, oPow, oLt, oLe, oGt, oGe, oIs, oIsNot, oNeg, oIAdd, D.isN, bLen, bInt, bStr, bAbs, bBool, bList, bTuple, D.ty, D.isInt, D.isBool, D.isStr, D.isTup, D.isLst, List.map_cons, List.map_nil, List.length_cons, List.length_nil, List.replicate_succ, List.replicate_zero, List.cons_append, List.nil_append, Option.isSome_some, if_true, if_false, Bool.false_eq_true, reduceIte, Nat.reduceAdd, Nat.reduceSub, Bool.not_true, Bool.not_false, true_and, and_true]
    refine ⟨ok_int _, ok_int _, ?_⟩
    rw [eqv_int]
    by_cases h1 : w = 1
    · rw [decide_eq_true h1]
      simp only [dVar, dC, dOp, dUn, dTst, dAnd, dOr, dNot, dAndV, dOrV, dNotV, dIfE, dNil, dCons, dTup, dLst, dNew, dCall, dB, dChain, dNext, dSeq, dDrop, dRet, dRetN, dIf, dAsg, gN, gSeq, gT, dPar2, dPar3, dAug, dRaise, dFor, dYes, dLc, dels, del, put, nth, startN, dFrz, dIx, dPart, dNoP, dSl, dApp, dPut, dM1, dFmt, dJs, dJoined, dIsi, dRg1, dRg2, dLsI, dTpI, dStI, dZip, dEnL, dLsRg1, dLsRg2, dNewK, dNewT, dOneT, dSetSort, dLsZip, dNewCan, oAdd, oSub, oMul, oDiv, oMod, oPow, oLt, oLe, oGt, oGe, oIs, oIsNot, oNeg, oIAdd, D.isN, bLen, bInt, bStr, bAbs, bBool, bList, bTuple, D.ty, D.isInt, D.isBool, D.isStr, D.isTup, D.isLst, List.map_cons, List.map_nil, List.length_cons, List.length_nil, List.replicate_succ, List.replicate_zero, List.cons_append, List.nil_append, Option.isSome_some, if_true, if_false, Bool.false_eq_true, reduceIte, Nat.reduceAdd, Nat.reduceSub, Bool.not_true, Bool.not_false, true_and, and_true]
      refine ⟨by omega, by decide, pick_ok hm (by decide) (by decide) fun d hd => ?_⟩
      obtain ⟨y, rfl, fy⟩ := fit1_str (List.all_eq_true.mp (show ([D.str (" " : Str), .str ("0" : Str), .str ("1" : Str), .str ("6" : Str), .str ("7" : Str), .str ("/" : Str), .str ("*" : Str), .str ("\n" : Str), .str ("a" : Str)] : List D).all D.fit1 = true from by decide +kernel) d hd)
      have ay := fy.1
      have f4 := f1.app fy
      have a4 := f4.1
      dsimp only
      exact ⟨by omega, by omega, by omega, fg_self (q _ ((f4.app f2).mono (by omega)))⟩
    · rw [decide_eq_false h1]
      simp only [dVar, dC, dOp, dUn, dTst, dAnd, dOr, dNot, dAndV, dOrV, dNotV, dIfE, dNil, dCons, dTup, dLst, dNew, dCall, dB, dChain, dNext, dSeq, dDrop, dRet, dRetN, dIf, dAsg, gN, gSeq, gT, dPar2, dPar3, dAug, dRaise, dFor, dYes, dLc, dels, del, put, nth, startN, dFrz, dIx, dPart, dNoP, dSl, dApp, dPut, dM1, dFmt, dJs, dJoined, dIsi, dRg1, dRg2, dLsI, dTpI, dStI, dZip, dEnL, dLsRg1, dLsRg2, dNewK, dNewT, dOneT, dSetSort, dLsZip, dNewCan, oAdd, oSub, oMul, oDiv, oMod, oPow, oLt, oLe, oGt, oGe, oIs, oIsNot, oNeg, oIAdd, D.isN, bLen, bInt, bStr, bAbs, bBool, bList, bTuple, D.ty, D.isInt, D.isBool, D.isStr, D.isTup, D.isLst, List.map_cons, List.map_nil, List.length_cons, List.length_nil, List.replicate_succ, List.replicate_zero, List.cons_append, List.nil_append, Option.isSome_some, if_true, if_false, Bool.false_eq_true, reduceIte, Nat.reduceAdd, Nat.reduceSub, Bool.not_true, Bool.not_false, true_and, and_true]
      refine ⟨ok_int _, ok_int _, ?_⟩
      rw [eqv_int]
      by_cases h2 : w = 2
      · rw [decide_eq_true h2]
        simp only [dVar, dC, dOp, dUn, dTst, dAnd, dOr, dNot, dAndV, dOrV, dNotV, dIfE, dNil, dCons, dTup, dLst, dNew, dCall, dB, dChain, dNext, dSeq, dDrop, dRet, dRetN, dIf, dAsg, gN, gSeq, gT, dPar2, dPar3, dAug, dRaise, dFor, dYes, dLc, dels, del, put, nth, startN, dFrz, dIx, dPart, dNoP, dSl, dApp, dPut, dM1, dFmt, dJs, dJoined, dIsi, dRg1, dRg2, dLsI, dTpI, dStI, dZip, dEnL, dLsRg1, dLsRg2, dNewK, dNewT, dOneT, dSetSort, dLsZip, dNewCan, oAdd, oSub, oMul, oDiv, oMod, oPow, oLt, oLe, oGt, oGe, oIs, oIsNot, oNeg, oIAdd, D.isN, bLen, bInt, bStr, bAbs, bBool, bList, bTuple, D.ty, D.isInt, D.isBool, D.isStr, D.isTup, D.isLst, List.map_cons, List.map_nil, List.length_cons, List.length_nil, List.replicate_succ, List.replicate_zero, List.cons_append, List.nil_append, Option.isSome_some, if_true, if_false, Bool.false_eq_true, reduceIte, Nat.reduceAdd, Nat.reduceSub, Bool.not_true, Bool.not_false, true_and, and_true, dRev]
        have f5 : Fit (z.length - k) (revZ (L2.cutS z (some ((k : Nat) : Int)) none)) := ⟨by rw [revZ_length]; exact a2, fun c hc => f2.2 c (by simpa [revZ] using hc)⟩
        have a5 := f5.1
        exact ⟨by omega, by omega, by omega, by omega, fg_self (q _ ((f1.app f5).mono (by omega)))⟩
      · rw [decide_eq_false h2]
        simp only [dVar, dC, dOp, dUn, dTst, dAnd, dOr, dNot, dAndV, dOrV, dNotV, dIfE, dNil, dCons, dTup, dLst, dNew, dCall, dB, dChain, dNext, dSeq, dDrop, dRet, dRetN, dIf, dAsg, gN, gSeq, gT, dPar2, dPar3, dAug, dRaise, dFor, dYes, dLc, dels, del, put, nth, startN, dFrz, dIx, dPart, dNoP, dSl, dApp, dPut, dM1, dFmt, dJs, dJoined, dIsi, dRg1, dRg2, dLsI, dTpI, dStI, dZip, dEnL, dLsRg1, dLsRg2, dNewK, dNewT, dOneT, dSetSort, dLsZip, dNewCan, oAdd, oSub, oMul, oDiv, oMod, oPow, oLt, oLe, oGt, oGe, oIs, oIsNot, oNeg, oIAdd, D.isN, bLen, bInt, bStr, bAbs, bBool, bList, bTuple, D.ty, D.isInt, D.isBool, D.isStr, D.isTup, D.isLst, List.map_cons, List.map_nil, List.length_cons, List.length_nil, List.replicate_succ, List.replicate_zero, List.cons_append, List.nil_append, Option.isSome_some, if_true, if_false, Bool.false_eq_true, reduceIte, Nat.reduceAdd, Nat.reduceSub, Bool.not_true, Bool.not_false, true_and, and_true]
        refine ⟨by omega, by decide, pick_ok hm (by decide) (by decide) fun d hd => ?_⟩
        obtain ⟨y, rfl, fy⟩ := fit1_str (List.all_eq_true.mp (show ([D.str ("0" : Str), .str ("3" : Str), .str ("/" : Str), .str ("*" : Str), .str ("9" : Str)] : List D).all D.fit1 = true from by decide +kernel) d hd)
        have ay := fy.1
        have f4 := f1.app fy
        have a4 := f4.1
        dsimp only
        exact ⟨by omega, by omega, by omega, fg_self (q _ ((f4.app f3).mono (by omega)))⟩
/-! ### the law -/
theorem fit_hTxt {h : Hs} (ok : h.Ok) : Fit 17 (hTxt h) := by
  have h3 := ok.s3
  have e : fg1 h.speed = fg h.speed := fg1_eq (by omega)
  unfold hTxt
  rw [e]
  have f0 : Fit 0 (Str.empty : Str) := fit_of (by decide +kernel)
  have f1 : Fit 1 (Str.ofString "/") := fit_of (by decide +kernel)
  have f2 : Fit 1 (Str.ofString "*") := fit_of (by decide +kernel)
  have f3 : Fit 1 (fg h.speed) := ⟨Nat.le_refl _, fun c hc => by
    have : c = 48 + h.speed := by simpa [fg] using hc
    omega⟩
  exact ((((((f0.app (fit_wk ok.aw)).app f1).app (fit_wk ok.ar)).app f2).app f3)).mono (by decide)
theorem hTxt_list {h : Hs} (ok : h.Ok) : (hTxt h).cps.toList = (h.work.map fun d => 48 + d) ++ 47 :: ((h.run.map fun d => 48 + d) ++ [42, 48 + h.speed]) := by
  have h3 := ok.s3
  have e : fg1 h.speed = fg h.speed := fg1_eq (by omega)
  unfold hTxt
  rw [e]
  simp only [app_list]
  have e0 : (Str.empty : Str).cps.toList = [] := rfl
  have e1 : (Str.ofString "/").cps.toList = [47] := by decide +kernel
  have e2 : (Str.ofString "*").cps.toList = [42] := by decide +kernel
  have e3 : ∀ l : List Nat, (wk l).cps.toList = l.map fun d => 48 + d := fun l => by simp [wk]
  have e4 : (fg h.speed).cps.toList = [48 + h.speed] := rfl
  rw [e0, e1, e2, e3, e3, e4]
  simp
theorem rdX_house {h : Hs} (ok : h.Ok) : rdX (.str (hTxt h)) = h.d := by
  have no : ∀ {l : List Nat} {c : Nat}, Asc l → c < 48 → c ∉ l.map fun d => 48 + d := fun {l c} _ hc z => by
    obtain ⟨d, _, e⟩ := List.mem_map.mp z
    omega
  have h1 := ok.s1
  have h3 := ok.s3
  show rdL (hTxt h).cps.toList = _
  rw [hTxt_list ok, rd_of (no ok.aw (by decide)) (no ok.ar (by decide)) (no ok.ar (by decide)) (by omega)]
  rw [show 48 + h.speed - 48 = h.speed by omega]
  rfl
theorem readD_house {h : Hs} (ok : h.Ok) : readD (.str (hTxt h)) = h.d := by
  unfold readD
  rw [rdX_house ok, ok.houseB, if_pos rfl]
theorem readD_good (x : D) (n : Nat) (h : x.goodB n = true) : (readD x).goodB 1 = true := by
  unfold readD
  by_cases hb : (rdX x).houseB = true
  · rw [if_pos hb]
    obtain ⟨g, ok, e⟩ := houseB_h hb
    rw [e]; exact Hs.good ok
  · rw [if_neg hb]; decide +kernel
def rows06 : List Str := ["01234/012345*1", "0/01*1", "0/0*1", "0/0*0", "0/0*4", "0/0*", "/0*1", "0/*1", "0*1", "0/0/0*1", "0/0*1*1", "01/0*1", "01/0*2", "10/01*1", "0/01*1 ", " 0/01*1", "0/01*1\n", "0/01 *1", "0/01*01", "0/01*x", "", "0/7*1", "00/01*1", "0123456/0123456*3", "0123456/012*2", "0123456/0123*2", "0/01*11", "/*1"]
end Dl
namespace Dl
open PySem
theorem Tbs.cons {ns : List Str} {M : Mem} (h : Tbs ns M) {p : Nat} {o : MO} (hp : p ∉ keys M) : Tbs ns ((p, o) :: M) := fun n hn => by
  obtain ⟨q, e⟩ := h n hn
  refine ⟨q, ?_⟩
  rw [mget_cons_ne fun z => hp (by rw [z]; exact mget_key e)]
  exact e
def S_law : DSp := fun ds M Q R => ∃ (ns : List Int), ds = [.scr ns] ∧ Tbs tbn M ∧ Q (.bl true) M
def t_law : DTS := dSeq (dFor (dRg1 (dB bMax (dCons (dC (.int 6)) (dCons (dB bMin (dCons (dC (.int 14)) (dCons (dB bLen (dCons (dVar 0) (dNil))) (dNil)))) (dNil))))) (gN 1) (dSeq (dAsg (dCall S_law_can (dCons (dVar 0) (dCons (dVar 1) (dNil)))) (gN 2)) (dSeq (dAsg (dCall S_law_any_house (dCons (dVar 2) (dNil))) (gN 3)) (dSeq (dAsg (dOp oAdd (dOp oAdd (dOp oAdd (dOp oAdd (dOp dIx (dVar 3) (dC (.int 0))) (dC (.str ("/" : Str)))) (dOp dIx (dVar 3) (dC (.int 1)))) (dC (.str ("*" : Str)))) (dB bStr (dCons (dOp dIx (dVar 3) (dC (.int 2))) (dNil)))) (gN 4)) (dSeq (dIf (dOr (dTst (dOp oNe (dCall S_house_text (dCons (dVar 3) (dNil))) (dVar 4))) (dTst (dOp oNe (dCall S_law_read (dCons (dVar 4) (dNil))) (dVar 3)))) (dRet (dC (.bl false))) (dNext)) (dSeq (dAsg (dVar 4) (gN 5)) (dSeq (dFor (dRg1 (dC (.int 12))) (gN 6) (dSeq (dAsg (dCall S_law_spoilt (dCons (dVar 2) (dCons (dIfE (dTst (dOp oGt (dOp oMod (dVar 6) (dC (.int 3))) (dC (.int 0)))) (dVar 5) (dVar 4)) (dNil)))) (gN 5)) (dIf (dTst (dOp oNe (dCall S_law_read (dCons (dVar 5) (dNil))) (dCall S_law_due (dCons (dVar 5) (dNil))))) (dRet (dC (.bl false))) (dNext)))) (dSeq (dAsg (dCall S_law_any_value (dCons (dVar 2) (dCons (dC (.int 2)) (dNil)))) (gN 7)) (dSeq (dIf (dTst (dOp oNe (dCall S_law_read (dCons (dVar 7) (dNil))) (dCall S_law_due (dCons (dVar 7) (dNil))))) (dRet (dC (.bl false))) (dNext)) (dIf (dAnd (dNot (dTst (dCall S_law_good_house (dCons (dVar 7) (dNil))))) (dTst (dOp oNe (dLamW word "law" (dCall S_house_text (dCons (dVar 7) (dNil)))) (dC (.str ("house value" : Str)))))) (dRet (dC (.bl false))) (dNext))))))))))) (dSeq (dAsg (dNew (dCons (dC (.str ("01234/012345*1" : Str))) (dCons (dC (.str ("0/01*1" : Str))) (dCons (dC (.str ("0/0*1" : Str))) (dCons (dC (.str ("0/0*0" : Str))) (dCons (dC (.str ("0/0*4" : Str))) (dCons (dC (.str ("0/0*" : Str))) (dCons (dC (.str ("/0*1" : Str))) (dCons (dC (.str ("0/*1" : Str))) (dCons (dC (.str ("0*1" : Str))) (dCons (dC (.str ("0/0/0*1" : Str))) (dCons (dC (.str ("0/0*1*1" : Str))) (dNil))))))))))))) (gN 8)) (dSeq (dAsg (dOp oCatM (dFrz (dVar 8)) (dLst (dCons (dC (.str ("01/0*1" : Str))) (dCons (dC (.str ("01/0*2" : Str))) (dCons (dC (.str ("10/01*1" : Str))) (dCons (dC (.str ("0/01*1 " : Str))) (dCons (dC (.str (" 0/01*1" : Str))) (dCons (dC (.str ("0/01*1\n" : Str))) (dCons (dC (.str ("0/01 *1" : Str))) (dCons (dC (.str ("0/01*01" : Str))) (dCons (dC (.str ("0/01*x" : Str))) (dCons (dC (.str ("" : Str))) (dNil))))))))))))) (gN 8)) (dSeq (dAsg (dOp oCatM (dFrz (dVar 8)) (dLst (dCons (dC (.str ("0/7*1" : Str))) (dCons (dC (.str ("00/01*1" : Str))) (dCons (dC (.str ("0123456/0123456*3" : Str))) (dCons (dC (.str ("0123456/012*2" : Str))) (dCons (dC (.str ("0123456/0123*2" : Str))) (dCons (dC (.str ("0/01*11" : Str))) (dCons (dC (.str ("/*1" : Str))) (dNil)))))))))) (gN 8)) (dSeq (dDrop (dApp (dVar 8) (dC (.str ("0/0*-1" : Str))))) (dSeq (dIf (dTst (dOp oNe (dLc [9] (dLsI (dFrz (dVar 8))) (gN 9) (dTst (dOp oNe (dCall S_law_read (dCons (dVar 9) (dNil))) (dCall S_law_due (dCons (dVar 9) (dNil))))) (dVar 9)) (dLst (dNil)))) (dRet (dC (.bl false))) (dNext)) (dRet (dAndV (dOp oEq (dCall S_read_house (dCons (dC (.str ("0/01*1" : Str))) (dNil))) (dTup (dCons (dC (.str ("0" : Str))) (dCons (dC (.str ("01" : Str))) (dCons (dC (.int 1)) (dNil)))))) (dOp oEq (dCall S_house_text (dCons (dTup (dCons (dC (.str ("0123456" : Str))) (dCons (dC (.str ("01245" : Str))) (dCons (dC (.int 2)) (dNil))))) (dNil))) (dC (.str ("0123456/01245*2" : Str)))))))))))
theorem kp_law : Keeps S_law 10 t_law := by
  rintro ds M Q R ⟨ns, rfl, ht, q⟩
  simp only [t_law, dVar, dC, dOp, dUn, dTst, dAnd, dOr, dNot, dAndV, dOrV, dNotV, dIfE, dNil, dCons, dTup, dLst, dNew, dCall, dB, dChain, dNext, dSeq, dDrop, dRet, dRetN, dIf, dAsg, gN, gSeq, gT, dPar2, dPar3, dAug, dRaise, dFor, dYes, dLc, dels, del, put, nth, startN, dFrz, dIx, dPart, dNoP, dSl, dApp, dPut, dM1, dFmt, dJs, dJoined, dIsi, dRg1, dRg2, dLsI, dTpI, dStI, dZip, dEnL, dLsRg1, dLsRg2, dNewK, dNewT, dOneT, dSetSort, dLsZip, dNewCan, oAdd, oSub, oMul, oDiv, oMod, oPow, oLt, oLe, oGt, oGe, oIs, oIsNot, oNeg, oIAdd, D.isN, bLen, bInt, bStr, bAbs, bBool, bList, bTuple, D.ty, D.isInt, D.isBool, D.isStr, D.isTup, D.isLst, List.map_cons, List.map_nil, List.length_cons, List.length_nil, List.replicate_succ, List.replicate_zero, List.cons_append, List.nil_append, Option.isSome_some, if_true, if_false, Bool.false_eq_true, reduceIte, Nat.reduceAdd, Nat.reduceSub, Bool.not_true, Bool.not_false, true_and, and_true, bMax, bMin]
  refine ⟨_, rfl, ?_⟩
  refine loop_inv (fun i ρ M' => Fg M' (fun M2 => M2 = M) ∧ Tbs tbn M' ∧ ∃ o1 o2 o3 o4 o5 o6 o7 o8 o9, ρ = [some (.scr ns), o1, o2, o3, o4, o5, o6, o7, o8, o9]) _ ⟨⟨M, .refl M, rfl⟩, ht, none, none, none, none, none, none, none, none, none, rfl⟩ ?_ ?_
  · rintro i d ρ M' N hd ⟨hM, ht, o1, o2, o3, o4, o5, o6, o7, o8, o9, rfl⟩ hN
    have hi := (List.getElem?_eq_some_iff.mp hd).1
    rw [rgD_length] at hi
    rw [rgD_get hi] at hd
    cases hd
    rw [show (0 : Int) + (i : Nat) = (i : Int) by omega]
    simp only [dVar, dC, dOp, dUn, dTst, dAnd, dOr, dNot, dAndV, dOrV, dNotV, dIfE, dNil, dCons, dTup, dLst, dNew, dCall, dB, dChain, dNext, dSeq, dDrop, dRet, dRetN, dIf, dAsg, gN, gSeq, gT, dPar2, dPar3, dAug, dRaise, dFor, dYes, dLc, dels, del, put, nth, startN, dFrz, dIx, dPart, dNoP, dSl, dApp, dPut, dM1, dFmt, dJs, dJoined, dIsi, dRg1, dRg2, dLsI, dTpI, dStI, dZip, dEnL, dLsRg1, dLsRg2, dNewK, dNewT, dOneT, dSetSort, dLsZip, dNewCan, oAdd, oSub, oMul, oDiv, oMod, oPow, oLt, oLe, oGt, oGe, oIs, oIsNot, oNeg, oIAdd, D.isN, bLen, bInt, bStr, bAbs, bBool, bList, bTuple, D.ty, D.isInt, D.isBool, D.isStr, D.isTup, D.isLst, List.map_cons, List.map_nil, List.length_cons, List.length_nil, List.replicate_succ, List.replicate_zero, List.cons_append, List.nil_append, Option.isSome_some, if_true, if_false, Bool.false_eq_true, reduceIte, Nat.reduceAdd, Nat.reduceSub, Bool.not_true, Bool.not_false, true_and, and_true]
    refine ⟨ns, i, ?_, rfl, fun p hp => ?_⟩
    · split at hi <;> split at hi <;> omega
    · refine ⟨p, mget_self, rfl, fun h ok => ?_⟩
      simp only [dVar, dC, dOp, dUn, dTst, dAnd, dOr, dNot, dAndV, dOrV, dNotV, dIfE, dNil, dCons, dTup, dLst, dNew, dCall, dB, dChain, dNext, dSeq, dDrop, dRet, dRetN, dIf, dAsg, gN, gSeq, gT, dPar2, dPar3, dAug, dRaise, dFor, dYes, dLc, dels, del, put, nth, startN, dFrz, dIx, dPart, dNoP, dSl, dApp, dPut, dM1, dFmt, dJs, dJoined, dIsi, dRg1, dRg2, dLsI, dTpI, dStI, dZip, dEnL, dLsRg1, dLsRg2, dNewK, dNewT, dOneT, dSetSort, dLsZip, dNewCan, oAdd, oSub, oMul, oDiv, oMod, oPow, oLt, oLe, oGt, oGe, oIs, oIsNot, oNeg, oIAdd, D.isN, bLen, bInt, bStr, bAbs, bBool, bList, bTuple, D.ty, D.isInt, D.isBool, D.isStr, D.isTup, D.isLst, List.map_cons, List.map_nil, List.length_cons, List.length_nil, List.replicate_succ, List.replicate_zero, List.cons_append, List.nil_append, Option.isSome_some, if_true, if_false, Bool.false_eq_true, reduceIte, Nat.reduceAdd, Nat.reduceSub, Bool.not_true, Bool.not_false, true_and, and_true, Hs.d]
      have lw := (fit_wk ok.aw).1
      have lr := (fit_wk ok.ar).1
      have l1 : ("/" : Str).length = 1 := by decide
      have l2 : ("*" : Str).length = 1 := by decide
      have hT : wk h.work ++ ("/" : Str) ++ wk h.run ++ ("*" : Str) ++ Str.ofString (toString (h.speed : Int)) = hTxt h := by
        unfold hTxt
        have e0 : ∀ z : Str, Str.empty ++ z = z := fun z => by
          cases z with
          | mk c => show (⟨#[] ++ c⟩ : Str) = ⟨c⟩; simp
        rw [e0]; rfl
      have fT := fit_hTxt ok
      refine ⟨_, _, rfl, ix0 .., ?_⟩
      try dsimp only
      refine ⟨by omega, _, _, rfl, ix1 .., ?_⟩
      try dsimp only
      refine ⟨by rw [len_app]; omega, ?_⟩
      refine ⟨by rw [len_app, len_app]; omega, _, _, rfl, ix2 .., ?_, ?_⟩
      · have h3 := ok.s3
        have h1 := ok.s1
        have : h.speed = 1 ∨ h.speed = 2 ∨ h.speed = 3 := by omega
        rcases this with e | e | e <;> (rw [e]; decide)
      try dsimp only
      refine ⟨by
        have := fT.1
        rw [← hT, len_app] at this
        omega, ?_⟩
      rw [hT]
      refine ⟨_, ok.fine2, rfl, fun g gok e => ?_, fun hb => ?_⟩
      rotate_left
      · exact absurd hb (by rw [ok.houseB]; exact Bool.noConfusion)
      have ge := Hs.d_inj (g := h) (h := g) e
      subst ge
      refine ne_same (fT.good (by decide)) (by decide) ?_
      simp only [dVar, dC, dOp, dUn, dTst, dAnd, dOr, dNot, dAndV, dOrV, dNotV, dIfE, dNil, dCons, dTup, dLst, dNew, dCall, dB, dChain, dNext, dSeq, dDrop, dRet, dRetN, dIf, dAsg, gN, gSeq, gT, dPar2, dPar3, dAug, dRaise, dFor, dYes, dLc, dels, del, put, nth, startN, dFrz, dIx, dPart, dNoP, dSl, dApp, dPut, dM1, dFmt, dJs, dJoined, dIsi, dRg1, dRg2, dLsI, dTpI, dStI, dZip, dEnL, dLsRg1, dLsRg2, dNewK, dNewT, dOneT, dSetSort, dLsZip, dNewCan, oAdd, oSub, oMul, oDiv, oMod, oPow, oLt, oLe, oGt, oGe, oIs, oIsNot, oNeg, oIAdd, D.isN, bLen, bInt, bStr, bAbs, bBool, bList, bTuple, D.ty, D.isInt, D.isBool, D.isStr, D.isTup, D.isLst, List.map_cons, List.map_nil, List.length_cons, List.length_nil, List.replicate_succ, List.replicate_zero, List.cons_append, List.nil_append, Option.isSome_some, if_true, if_false, Bool.false_eq_true, reduceIte, Nat.reduceAdd, Nat.reduceSub, Bool.not_true, Bool.not_false, true_and, and_true]
      refine ⟨_, 0, fT.good (by decide), rfl, ?_⟩
      try dsimp only
      rw [readD_house ok]
      refine ne_same (Hs.good ok) (by decide) ?_
      simp only [dVar, dC, dOp, dUn, dTst, dAnd, dOr, dNot, dAndV, dOrV, dNotV, dIfE, dNil, dCons, dTup, dLst, dNew, dCall, dB, dChain, dNext, dSeq, dDrop, dRet, dRetN, dIf, dAsg, gN, gSeq, gT, dPar2, dPar3, dAug, dRaise, dFor, dYes, dLc, dels, del, put, nth, startN, dFrz, dIx, dPart, dNoP, dSl, dApp, dPut, dM1, dFmt, dJs, dJoined, dIsi, dRg1, dRg2, dLsI, dTpI, dStI, dZip, dEnL, dLsRg1, dLsRg2, dNewK, dNewT, dOneT, dSetSort, dLsZip, dNewCan, oAdd, oSub, oMul, oDiv, oMod, oPow, oLt, oLe, oGt, oGe, oIs, oIsNot, oNeg, oIAdd, D.isN, bLen, bInt, bStr, bAbs, bBool, bList, bTuple, D.ty, D.isInt, D.isBool, D.isStr, D.isTup, D.isLst, List.map_cons, List.map_nil, List.length_cons, List.length_nil, List.replicate_succ, List.replicate_zero, List.cons_append, List.nil_append, Option.isSome_some, if_true, if_false, Bool.false_eq_true, reduceIte, Nat.reduceAdd, Nat.reduceSub, Bool.not_true, Bool.not_false, true_and, and_true]
      refine ⟨_, rfl, ?_⟩
      have hc : mget ((p, MO.can) :: M') p = some .can := mget_self
      have hF : Fg ((p, MO.can) :: M') (fun M2 => M2 = M) := fg_drop hM
      have hT3 : Tbs tbn ((p, MO.can) :: M') := ht.cons hp
      generalize ((p, MO.can) :: M' : Mem) = M3 at hc hF hT3 ⊢
      refine loop_inv (fun j ρ M' => M' = M3 ∧ ∃ z o6, Fit (17 + j) z ∧ ρ = [some (.scr ns), some (.int (i : Int)), some (.obj p), some h.d, some (.str (hTxt h)), some (.str z), o6, o7, o8, o9]) _ ⟨rfl, _, _, fT, rfl⟩ ?_ ?_
      · rintro j d ρ M' N2 hd ⟨rfl, z, o6, fz, rfl⟩ hN2
        have hj := (List.getElem?_eq_some_iff.mp hd).1
        rw [rgD_length] at hj
        rw [rgD_get hj] at hd
        cases hd
        have hj' : j < 12 := hj
        simp only [dVar, dC, dOp, dUn, dTst, dAnd, dOr, dNot, dAndV, dOrV, dNotV, dIfE, dNil, dCons, dTup, dLst, dNew, dCall, dB, dChain, dNext, dSeq, dDrop, dRet, dRetN, dIf, dAsg, gN, gSeq, gT, dPar2, dPar3, dAug, dRaise, dFor, dYes, dLc, dels, del, put, nth, startN, dFrz, dIx, dPart, dNoP, dSl, dApp, dPut, dM1, dFmt, dJs, dJoined, dIsi, dRg1, dRg2, dLsI, dTpI, dStI, dZip, dEnL, dLsRg1, dLsRg2, dNewK, dNewT, dOneT, dSetSort, dLsZip, dNewCan, oAdd, oSub, oMul, oDiv, oMod, oPow, oLt, oLe, oGt, oGe, oIs, oIsNot, oNeg, oIAdd, D.isN, bLen, bInt, bStr, bAbs, bBool, bList, bTuple, D.ty, D.isInt, D.isBool, D.isStr, D.isTup, D.isLst, List.map_cons, List.map_nil, List.length_cons, List.length_nil, List.replicate_succ, List.replicate_zero, List.cons_append, List.nil_append, Option.isSome_some, if_true, if_false, Bool.false_eq_true, reduceIte, Nat.reduceAdd, Nat.reduceSub, Bool.not_true, Bool.not_false, true_and, and_true]
        refine ⟨by decide, ?_⟩
        have fin : ∀ y : Str, Fit (17 + j) y → S_law_spoilt [D.obj p, D.str y] M' (fun x M1 => S_law_read [x] M1 (fun x_1 M1 => S_law_due [x] M1 (fun y M2 => oNe x_1 y M2 fun x_2 M1 => match x_2 with
            | .bl b => if b = true then Fg M1 (Q (.bl false)) else N2 [some (.scr ns), some (.int (i : Int)), some (.obj p), some h.d, some (.str (hTxt h)), some x, some (.int (0 + (j : Nat))), o7, o8, o9] M1
            | _ => False) fun ex M2 => Fg M2 (R ex)) fun ex M2 => Fg M2 (R ex)) fun ex M2 => Fg M2 (R ex) := fun y fy => by
          refine ⟨p, y, 17 + j, hc, by omega, fy, rfl, fun y2 fy2 => ?_⟩
          have g2 := fy2.good (by omega)
          refine ⟨_, 0, g2, rfl, ⟨_, 0, g2, rfl, ?_⟩⟩
          refine ne_same (readD_good _ 0 g2) (by decide) ?_
          simp only [dVar, dC, dOp, dUn, dTst, dAnd, dOr, dNot, dAndV, dOrV, dNotV, dIfE, dNil, dCons, dTup, dLst, dNew, dCall, dB, dChain, dNext, dSeq, dDrop, dRet, dRetN, dIf, dAsg, gN, gSeq, gT, dPar2, dPar3, dAug, dRaise, dFor, dYes, dLc, dels, del, put, nth, startN, dFrz, dIx, dPart, dNoP, dSl, dApp, dPut, dM1, dFmt, dJs, dJoined, dIsi, dRg1, dRg2, dLsI, dTpI, dStI, dZip, dEnL, dLsRg1, dLsRg2, dNewK, dNewT, dOneT, dSetSort, dLsZip, dNewCan, oAdd, oSub, oMul, oDiv, oMod, oPow, oLt, oLe, oGt, oGe, oIs, oIsNot, oNeg, oIAdd, D.isN, bLen, bInt, bStr, bAbs, bBool, bList, bTuple, D.ty, D.isInt, D.isBool, D.isStr, D.isTup, D.isLst, List.map_cons, List.map_nil, List.length_cons, List.length_nil, List.replicate_succ, List.replicate_zero, List.cons_append, List.nil_append, Option.isSome_some, if_true, if_false, Bool.false_eq_true, reduceIte, Nat.reduceAdd, Nat.reduceSub, Bool.not_true, Bool.not_false, true_and, and_true]
          exact hN2 _ _ ⟨rfl, y2, _, fy2.mono (by omega), rfl⟩
        by_cases hb : (0 : Int) < (0 + (j : Int)) % 3
        · rw [decide_eq_true hb]
          simp only [dVar, dC, dOp, dUn, dTst, dAnd, dOr, dNot, dAndV, dOrV, dNotV, dIfE, dNil, dCons, dTup, dLst, dNew, dCall, dB, dChain, dNext, dSeq, dDrop, dRet, dRetN, dIf, dAsg, gN, gSeq, gT, dPar2, dPar3, dAug, dRaise, dFor, dYes, dLc, dels, del, put, nth, startN, dFrz, dIx, dPart, dNoP, dSl, dApp, dPut, dM1, dFmt, dJs, dJoined, dIsi, dRg1, dRg2, dLsI, dTpI, dStI, dZip, dEnL, dLsRg1, dLsRg2, dNewK, dNewT, dOneT, dSetSort, dLsZip, dNewCan, oAdd, oSub, oMul, oDiv, oMod, oPow, oLt, oLe, oGt, oGe, oIs, oIsNot, oNeg, oIAdd, D.isN, bLen, bInt, bStr, bAbs, bBool, bList, bTuple, D.ty, D.isInt, D.isBool, D.isStr, D.isTup, D.isLst, List.map_cons, List.map_nil, List.length_cons, List.length_nil, List.replicate_succ, List.replicate_zero, List.cons_append, List.nil_append, Option.isSome_some, if_true, if_false, Bool.false_eq_true, reduceIte, Nat.reduceAdd, Nat.reduceSub, Bool.not_true, Bool.not_false, true_and, and_true]
          exact fin z fz
        · rw [decide_eq_false hb]
          simp only [dVar, dC, dOp, dUn, dTst, dAnd, dOr, dNot, dAndV, dOrV, dNotV, dIfE, dNil, dCons, dTup, dLst, dNew, dCall, dB, dChain, dNext, dSeq, dDrop, dRet, dRetN, dIf, dAsg, gN, gSeq, gT, dPar2, dPar3, dAug, dRaise, dFor, dYes, dLc, dels, del, put, nth, startN, dFrz, dIx, dPart, dNoP, dSl, dApp, dPut, dM1, dFmt, dJs, dJoined, dIsi, dRg1, dRg2, dLsI, dTpI, dStI, dZip, dEnL, dLsRg1, dLsRg2, dNewK, dNewT, dOneT, dSetSort, dLsZip, dNewCan, oAdd, oSub, oMul, oDiv, oMod, oPow, oLt, oLe, oGt, oGe, oIs, oIsNot, oNeg, oIAdd, D.isN, bLen, bInt, bStr, bAbs, bBool, bList, bTuple, D.ty, D.isInt, D.isBool, D.isStr, D.isTup, D.isLst, List.map_cons, List.map_nil, List.length_cons, List.length_nil, List.replicate_succ, List.replicate_zero, List.cons_append, List.nil_append, Option.isSome_some, if_true, if_false, Bool.false_eq_true, reduceIte, Nat.reduceAdd, Nat.reduceSub, Bool.not_true, Bool.not_false, true_and, and_true]
          exact fin _ (fT.mono (by omega))
      · rintro ρ M' ⟨rfl, z, o6, fz, rfl⟩
        simp only [dVar, dC, dOp, dUn, dTst, dAnd, dOr, dNot, dAndV, dOrV, dNotV, dIfE, dNil, dCons, dTup, dLst, dNew, dCall, dB, dChain, dNext, dSeq, dDrop, dRet, dRetN, dIf, dAsg, gN, gSeq, gT, dPar2, dPar3, dAug, dRaise, dFor, dYes, dLc, dels, del, put, nth, startN, dFrz, dIx, dPart, dNoP, dSl, dApp, dPut, dM1, dFmt, dJs, dJoined, dIsi, dRg1, dRg2, dLsI, dTpI, dStI, dZip, dEnL, dLsRg1, dLsRg2, dNewK, dNewT, dOneT, dSetSort, dLsZip, dNewCan, oAdd, oSub, oMul, oDiv, oMod, oPow, oLt, oLe, oGt, oGe, oIs, oIsNot, oNeg, oIAdd, D.isN, bLen, bInt, bStr, bAbs, bBool, bList, bTuple, D.ty, D.isInt, D.isBool, D.isStr, D.isTup, D.isLst, List.map_cons, List.map_nil, List.length_cons, List.length_nil, List.replicate_succ, List.replicate_zero, List.cons_append, List.nil_append, Option.isSome_some, if_true, if_false, Bool.false_eq_true, reduceIte, Nat.reduceAdd, Nat.reduceSub, Bool.not_true, Bool.not_false, true_and, and_true]
        refine ⟨p, 2, by decide, hc, rfl, fun x hx => ?_⟩
        simp only [dVar, dC, dOp, dUn, dTst, dAnd, dOr, dNot, dAndV, dOrV, dNotV, dIfE, dNil, dCons, dTup, dLst, dNew, dCall, dB, dChain, dNext, dSeq, dDrop, dRet, dRetN, dIf, dAsg, gN, gSeq, gT, dPar2, dPar3, dAug, dRaise, dFor, dYes, dLc, dels, del, put, nth, startN, dFrz, dIx, dPart, dNoP, dSl, dApp, dPut, dM1, dFmt, dJs, dJoined, dIsi, dRg1, dRg2, dLsI, dTpI, dStI, dZip, dEnL, dLsRg1, dLsRg2, dNewK, dNewT, dOneT, dSetSort, dLsZip, dNewCan, oAdd, oSub, oMul, oDiv, oMod, oPow, oLt, oLe, oGt, oGe, oIs, oIsNot, oNeg, oIAdd, D.isN, bLen, bInt, bStr, bAbs, bBool, bList, bTuple, D.ty, D.isInt, D.isBool, D.isStr, D.isTup, D.isLst, List.map_cons, List.map_nil, List.length_cons, List.length_nil, List.replicate_succ, List.replicate_zero, List.cons_append, List.nil_append, Option.isSome_some, if_true, if_false, Bool.false_eq_true, reduceIte, Nat.reduceAdd, Nat.reduceSub, Bool.not_true, Bool.not_false, true_and, and_true]
        refine ⟨x, 3, hx, rfl, x, 3, hx, rfl, ?_⟩
        refine ne_same (readD_good _ 3 hx) (by decide) ?_
        simp only [dVar, dC, dOp, dUn, dTst, dAnd, dOr, dNot, dAndV, dOrV, dNotV, dIfE, dNil, dCons, dTup, dLst, dNew, dCall, dB, dChain, dNext, dSeq, dDrop, dRet, dRetN, dIf, dAsg, gN, gSeq, gT, dPar2, dPar3, dAug, dRaise, dFor, dYes, dLc, dels, del, put, nth, startN, dFrz, dIx, dPart, dNoP, dSl, dApp, dPut, dM1, dFmt, dJs, dJoined, dIsi, dRg1, dRg2, dLsI, dTpI, dStI, dZip, dEnL, dLsRg1, dLsRg2, dNewK, dNewT, dOneT, dSetSort, dLsZip, dNewCan, oAdd, oSub, oMul, oDiv, oMod, oPow, oLt, oLe, oGt, oGe, oIs, oIsNot, oNeg, oIAdd, D.isN, bLen, bInt, bStr, bAbs, bBool, bList, bTuple, D.ty, D.isInt, D.isBool, D.isStr, D.isTup, D.isLst, List.map_cons, List.map_nil, List.length_cons, List.length_nil, List.replicate_succ, List.replicate_zero, List.cons_append, List.nil_append, Option.isSome_some, if_true, if_false, Bool.false_eq_true, reduceIte, Nat.reduceAdd, Nat.reduceSub, Bool.not_true, Bool.not_false, true_and, and_true]
        refine ⟨x, 3, hx, rfl, ?_⟩
        have again : ∀ y, N [some (.scr ns), some (.int (i : Int)), some (.obj p), some h.d, some (.str (hTxt h)), some (.str z), o6, some y, o8, o9] M' := fun y => hN _ _ ⟨hF, hT3, _, _, _, _, _, _, _, _, _, rfl⟩
        cases hb : x.houseB with
        | true => simp only [dVar, dC, dOp, dUn, dTst, dAnd, dOr, dNot, dAndV, dOrV, dNotV, dIfE, dNil, dCons, dTup, dLst, dNew, dCall, dB, dChain, dNext, dSeq, dDrop, dRet, dRetN, dIf, dAsg, gN, gSeq, gT, dPar2, dPar3, dAug, dRaise, dFor, dYes, dLc, dels, del, put, nth, startN, dFrz, dIx, dPart, dNoP, dSl, dApp, dPut, dM1, dFmt, dJs, dJoined, dIsi, dRg1, dRg2, dLsI, dTpI, dStI, dZip, dEnL, dLsRg1, dLsRg2, dNewK, dNewT, dOneT, dSetSort, dLsZip, dNewCan, oAdd, oSub, oMul, oDiv, oMod, oPow, oLt, oLe, oGt, oGe, oIs, oIsNot, oNeg, oIAdd, D.isN, bLen, bInt, bStr, bAbs, bBool, bList, bTuple, D.ty, D.isInt, D.isBool, D.isStr, D.isTup, D.isLst, List.map_cons, List.map_nil, List.length_cons, List.length_nil, List.replicate_succ, List.replicate_zero, List.cons_append, List.nil_append, Option.isSome_some, if_true, if_false, Bool.false_eq_true, reduceIte, Nat.reduceAdd, Nat.reduceSub, Bool.not_true, Bool.not_false, true_and, and_true]; exact again _
        | false =>
          simp only [dVar, dC, dOp, dUn, dTst, dAnd, dOr, dNot, dAndV, dOrV, dNotV, dIfE, dNil, dCons, dTup, dLst, dNew, dCall, dB, dChain, dNext, dSeq, dDrop, dRet, dRetN, dIf, dAsg, gN, gSeq, gT, dPar2, dPar3, dAug, dRaise, dFor, dYes, dLc, dels, del, put, nth, startN, dFrz, dIx, dPart, dNoP, dSl, dApp, dPut, dM1, dFmt, dJs, dJoined, dIsi, dRg1, dRg2, dLsI, dTpI, dStI, dZip, dEnL, dLsRg1, dLsRg2, dNewK, dNewT, dOneT, dSetSort, dLsZip, dNewCan, oAdd, oSub, oMul, oDiv, oMod, oPow, oLt, oLe, oGt, oGe, oIs, oIsNot, oNeg, oIAdd, D.isN, bLen, bInt, bStr, bAbs, bBool, bList, bTuple, D.ty, D.isInt, D.isBool, D.isStr, D.isTup, D.isLst, List.map_cons, List.map_nil, List.length_cons, List.length_nil, List.replicate_succ, List.replicate_zero, List.cons_append, List.nil_append, Option.isSome_some, if_true, if_false, Bool.false_eq_true, reduceIte, Nat.reduceAdd, Nat.reduceSub, Bool.not_true, Bool.not_false, true_and, and_true, dLamW]
          refine ⟨hT3 "law" (by decide), x, good_fine2 hx, rfl, fun g gok e => ?_, fun _ => ?_⟩
          · subst e
            rw [gok.houseB] at hb; cases hb
          · refine ⟨("house value" : Str), by decide, ?_⟩
            refine ne_same (n := 0) (by decide +kernel) (by decide) ?_
            simp only [dVar, dC, dOp, dUn, dTst, dAnd, dOr, dNot, dAndV, dOrV, dNotV, dIfE, dNil, dCons, dTup, dLst, dNew, dCall, dB, dChain, dNext, dSeq, dDrop, dRet, dRetN, dIf, dAsg, gN, gSeq, gT, dPar2, dPar3, dAug, dRaise, dFor, dYes, dLc, dels, del, put, nth, startN, dFrz, dIx, dPart, dNoP, dSl, dApp, dPut, dM1, dFmt, dJs, dJoined, dIsi, dRg1, dRg2, dLsI, dTpI, dStI, dZip, dEnL, dLsRg1, dLsRg2, dNewK, dNewT, dOneT, dSetSort, dLsZip, dNewCan, oAdd, oSub, oMul, oDiv, oMod, oPow, oLt, oLe, oGt, oGe, oIs, oIsNot, oNeg, oIAdd, D.isN, bLen, bInt, bStr, bAbs, bBool, bList, bTuple, D.ty, D.isInt, D.isBool, D.isStr, D.isTup, D.isLst, List.map_cons, List.map_nil, List.length_cons, List.length_nil, List.replicate_succ, List.replicate_zero, List.cons_append, List.nil_append, Option.isSome_some, if_true, if_false, Bool.false_eq_true, reduceIte, Nat.reduceAdd, Nat.reduceSub, Bool.not_true, Bool.not_false, true_and, and_true]
            exact again _
  · rintro ρ M' ⟨⟨M2, sb, rfl⟩, ht, o1, o2, o3, o4, o5, o6, o7, o8, o9, rfl⟩
    simp only [dVar, dC, dOp, dUn, dTst, dAnd, dOr, dNot, dAndV, dOrV, dNotV, dIfE, dNil, dCons, dTup, dLst, dNew, dCall, dB, dChain, dNext, dSeq, dDrop, dRet, dRetN, dIf, dAsg, gN, gSeq, gT, dPar2, dPar3, dAug, dRaise, dFor, dYes, dLc, dels, del, put, nth, startN, dFrz, dIx, dPart, dNoP, dSl, dApp, dPut, dM1, dFmt, dJs, dJoined, dIsi, dRg1, dRg2, dLsI, dTpI, dStI, dZip, dEnL, dLsRg1, dLsRg2, dNewK, dNewT, dOneT, dSetSort, dLsZip, dNewCan, oAdd, oSub, oMul, oDiv, oMod, oPow, oLt, oLe, oGt, oGe, oIs, oIsNot, oNeg, oIAdd, D.isN, bLen, bInt, bStr, bAbs, bBool, bList, bTuple, D.ty, D.isInt, D.isBool, D.isStr, D.isTup, D.isLst, List.map_cons, List.map_nil, List.length_cons, List.length_nil, List.replicate_succ, List.replicate_zero, List.cons_append, List.nil_append, Option.isSome_some, if_true, if_false, Bool.false_eq_true, reduceIte, Nat.reduceAdd, Nat.reduceSub, Bool.not_true, Bool.not_false, true_and, and_true]
    refine ⟨by decide, fun p1 hp1 => ?_⟩
    simp only [mget_self, mdel_cons_self, oCatM]
    refine ⟨by decide, by decide, fun p2 hp2 => ?_⟩
    refine ⟨by decide, by decide, fun p3 hp3 => ⟨p3, _, rfl, mget_self, _, mget_self, by decide, ?_⟩⟩
    simp only [mset_cons_self, mget_self, mdel_cons_self]
    refine ⟨_, rfl, by decide, ?_⟩
    refine lc_pure (fun _ => false) (fun d => d) _ [] (fun d hd k1 k2 h1 h2 => ?_) ?_
    · have gd : d.goodB 0 = true := List.all_eq_true.mp (by decide +kernel) d hd
      simp only [dVar, dC, dOp, dUn, dTst, dAnd, dOr, dNot, dAndV, dOrV, dNotV, dIfE, dNil, dCons, dTup, dLst, dNew, dCall, dB, dChain, dNext, dSeq, dDrop, dRet, dRetN, dIf, dAsg, gN, gSeq, gT, dPar2, dPar3, dAug, dRaise, dFor, dYes, dLc, dels, del, put, nth, startN, dFrz, dIx, dPart, dNoP, dSl, dApp, dPut, dM1, dFmt, dJs, dJoined, dIsi, dRg1, dRg2, dLsI, dTpI, dStI, dZip, dEnL, dLsRg1, dLsRg2, dNewK, dNewT, dOneT, dSetSort, dLsZip, dNewCan, oAdd, oSub, oMul, oDiv, oMod, oPow, oLt, oLe, oGt, oGe, oIs, oIsNot, oNeg, oIAdd, D.isN, bLen, bInt, bStr, bAbs, bBool, bList, bTuple, D.ty, D.isInt, D.isBool, D.isStr, D.isTup, D.isLst, List.map_cons, List.map_nil, List.length_cons, List.length_nil, List.replicate_succ, List.replicate_zero, List.cons_append, List.nil_append, Option.isSome_some, if_true, if_false, Bool.false_eq_true, reduceIte, Nat.reduceAdd, Nat.reduceSub, Bool.not_true, Bool.not_false, true_and, and_true]
      refine ⟨d, 0, gd, rfl, d, 0, gd, rfl, ?_⟩
      refine ne_same (readD_good _ 0 gd) (by decide) ?_
      simp only [dVar, dC, dOp, dUn, dTst, dAnd, dOr, dNot, dAndV, dOrV, dNotV, dIfE, dNil, dCons, dTup, dLst, dNew, dCall, dB, dChain, dNext, dSeq, dDrop, dRet, dRetN, dIf, dAsg, gN, gSeq, gT, dPar2, dPar3, dAug, dRaise, dFor, dYes, dLc, dels, del, put, nth, startN, dFrz, dIx, dPart, dNoP, dSl, dApp, dPut, dM1, dFmt, dJs, dJoined, dIsi, dRg1, dRg2, dLsI, dTpI, dStI, dZip, dEnL, dLsRg1, dLsRg2, dNewK, dNewT, dOneT, dSetSort, dLsZip, dNewCan, oAdd, oSub, oMul, oDiv, oMod, oPow, oLt, oLe, oGt, oGe, oIs, oIsNot, oNeg, oIAdd, D.isN, bLen, bInt, bStr, bAbs, bBool, bList, bTuple, D.ty, D.isInt, D.isBool, D.isStr, D.isTup, D.isLst, List.map_cons, List.map_nil, List.length_cons, List.length_nil, List.replicate_succ, List.replicate_zero, List.cons_append, List.nil_append, Option.isSome_some, if_true, if_false, Bool.false_eq_true, reduceIte, Nat.reduceAdd, Nat.reduceSub, Bool.not_true, Bool.not_false, true_and, and_true]
      exact h2 rfl
    · have e0 : ∀ l : List D, l.filter (fun _ => false) = [] := fun l => by simp
      rw [e0]
      refine ⟨by decide, ok_nil, ok_nil, ?_⟩
      rw [eqv_nil]
      simp only [List.map_nil, List.append_nil, List.isEmpty_nil, dVar, dC, dOp, dUn, dTst, dAnd, dOr, dNot, dAndV, dOrV, dNotV, dIfE, dNil, dCons, dTup, dLst, dNew, dCall, dB, dChain, dNext, dSeq, dDrop, dRet, dRetN, dIf, dAsg, gN, gSeq, gT, dPar2, dPar3, dAug, dRaise, dFor, dYes, dLc, dels, del, put, nth, startN, dFrz, dIx, dPart, dNoP, dSl, dApp, dPut, dM1, dFmt, dJs, dJoined, dIsi, dRg1, dRg2, dLsI, dTpI, dStI, dZip, dEnL, dLsRg1, dLsRg2, dNewK, dNewT, dOneT, dSetSort, dLsZip, dNewCan, oAdd, oSub, oMul, oDiv, oMod, oPow, oLt, oLe, oGt, oGe, oIs, oIsNot, oNeg, oIAdd, D.isN, bLen, bInt, bStr, bAbs, bBool, bList, bTuple, D.ty, D.isInt, D.isBool, D.isStr, D.isTup, D.isLst, List.map_cons, List.map_nil, List.length_cons, List.length_nil, List.replicate_succ, List.replicate_zero, List.cons_append, List.nil_append, Option.isSome_some, if_true, if_false, Bool.false_eq_true, reduceIte, Nat.reduceAdd, Nat.reduceSub, Bool.not_true, Bool.not_false, true_and, and_true]
      have ok1 : (Hs.mk [0] [0, 1] 1).Ok := Hs.ok_of (by decide +kernel)
      have ok2 : (Hs.mk [0, 1, 2, 3, 4, 5, 6] [0, 1, 2, 4, 5] 2).Ok := Hs.ok_of (by decide +kernel)
      have r0 : hTxt ⟨[0], [0, 1], 1⟩ = ("0/01*1" : Str) := by decide +kernel
      have r1 : rdX (.str ("0/01*1" : Str)) = (Hs.mk [0] [0, 1] 1).d := by rw [← r0]; exact rdX_house ok1
      refine ⟨_, rfl, fun z e => by cases e; decide, rfl, fun _ => ?_, fun hb => ?_⟩
      · rw [r1]
        refine ⟨by decide, ?_⟩
        refine eq_same (Hs.good ok1) (by decide) ?_
        simp only [dVar, dC, dOp, dUn, dTst, dAnd, dOr, dNot, dAndV, dOrV, dNotV, dIfE, dNil, dCons, dTup, dLst, dNew, dCall, dB, dChain, dNext, dSeq, dDrop, dRet, dRetN, dIf, dAsg, gN, gSeq, gT, dPar2, dPar3, dAug, dRaise, dFor, dYes, dLc, dels, del, put, nth, startN, dFrz, dIx, dPart, dNoP, dSl, dApp, dPut, dM1, dFmt, dJs, dJoined, dIsi, dRg1, dRg2, dLsI, dTpI, dStI, dZip, dEnL, dLsRg1, dLsRg2, dNewK, dNewT, dOneT, dSetSort, dLsZip, dNewCan, oAdd, oSub, oMul, oDiv, oMod, oPow, oLt, oLe, oGt, oGe, oIs, oIsNot, oNeg, oIAdd, D.isN, bLen, bInt, bStr, bAbs, bBool, bList, bTuple, D.ty, D.isInt, D.isBool, D.isStr, D.isTup, D.isLst, List.map_cons, List.map_nil, List.length_cons, List.length_nil, List.replicate_succ, List.replicate_zero, List.cons_append, List.nil_append, Option.isSome_some, if_true, if_false, Bool.false_eq_true, reduceIte, Nat.reduceAdd, Nat.reduceSub, Bool.not_true, Bool.not_false, true_and, and_true]
        refine ⟨by decide, _, ok2.fine2, rfl, fun g gok e => ?_, fun hb => ?_⟩
        · have ge := Hs.d_inj (g := ⟨[0, 1, 2, 3, 4, 5, 6], [0, 1, 2, 4, 5], 2⟩) (h := g) e
          subst ge
          have e2 : hTxt ⟨[0, 1, 2, 3, 4, 5, 6], [0, 1, 2, 4, 5], 2⟩ = ("0123456/01245*2" : Str) := by decide +kernel
          rw [e2]
          exact eq_same (n := 0) (by decide +kernel) (by decide) ⟨M2, sb, q⟩
        · exact absurd hb (by rw [ok2.houseB]; exact Bool.noConfusion)
      · rw [r1, ok1.houseB] at hb; cases hb
end Dl
namespace Dl
open PySem PySem.Spec PyProof.Rows L2
def top (i : Nat) : Stmt := PySem.Challenge.pw_pushedrounds_k06_texts_of_houses.main.body.getD i (.Pass ⟨0, 0, 0, 0⟩)
/-- what the head leaves behind -/
structure Fc (P : Program) (w : World) (K : PySem.W.Frag) (mg : Str → Option Value) (base : Heap) : Prop where
  b_ValueError : mg "ValueError" = none
  b_len : mg "len" = none
  b_isinstance : mg "isinstance" = none
  b_int : mg "int" = none
  b_str : mg "str" = none
  b_tuple : mg "tuple" = none
  b_bool : mg "bool" = none
  b_list : mg "list" = none
  b_all : mg "all" = none
  b_any : mg "any" = none
  b_range : mg "range" = none
  b_min : mg "min" = none
  b_max : mg "max" = none
  b_zip : mg "zip" = none
  b_enumerate : mg "enumerate" = none
  b_sorted : mg "sorted" = none
  b_set : mg "set" = none
  b_abs : mg "abs" = none
  b_sum : mg "sum" = none
  c_FIGURES : ∃ t, mg "FIGURES" = some (.str ("0123456" : Str) t)
  c_MOST_SPEED : ∃ t, mg "MOST_SPEED" = some (.int 3 t)
  g_RoundError : mg "RoundError" = some (.ref (He.ga K "RoundError"))
  x_RoundError : (He.Fa.exc "RoundError").ok K = true
  g_InvalidHouse : mg "InvalidHouse" = some (.ref (He.ga K "InvalidHouse"))
  x_InvalidHouse : (He.Fa.exc "InvalidHouse").ok K = true
  g_InvalidCalendar : mg "InvalidCalendar" = some (.ref (He.ga K "InvalidCalendar"))
  x_InvalidCalendar : (He.Fa.exc "InvalidCalendar").ok K = true
  g_InvalidDay : mg "InvalidDay" = some (.ref (He.ga K "InvalidDay"))
  x_InvalidDay : (He.Fa.exc "InvalidDay").ok K = true
  g_InvalidNumber : mg "InvalidNumber" = some (.ref (He.ga K "InvalidNumber"))
  x_InvalidNumber : (He.Fa.exc "InvalidNumber").ok K = true
  g_InvalidWeekdays : mg "InvalidWeekdays" = some (.ref (He.ga K "InvalidWeekdays"))
  x_InvalidWeekdays : (He.Fa.exc "InvalidWeekdays").ok K = true
  g_InvalidSeen : mg "InvalidSeen" = some (.ref (He.ga K "InvalidSeen"))
  x_InvalidSeen : (He.Fa.exc "InvalidSeen").ok K = true
  g_InvalidSign : mg "InvalidSign" = some (.ref (He.ga K "InvalidSign"))
  x_InvalidSign : (He.Fa.exc "InvalidSign").ok K = true
  g_InvalidText : mg "InvalidText" = some (.ref (He.ga K "InvalidText"))
  x_InvalidText : (He.Fa.exc "InvalidText").ok K = true
  g_Unlike : mg "Unlike" = some (.ref (He.ga K "Unlike"))
  x_Unlike : (He.Fa.exc "Unlike").ok K = true
  g_NothingToUndo : mg "NothingToUndo" = some (.ref (He.ga K "NothingToUndo"))
  x_NothingToUndo : (He.Fa.exc "NothingToUndo").ok K = true
  g_TooMany : mg "TooMany" = some (.ref (He.ga K "TooMany"))
  g_Failed : mg "Failed" = some (.ref (He.ga K "Failed"))
  er : ErrF K
  g_law_can : mg "_law_can" = some (.ref (He.ga K "_law_can"))
  f_law_can : ∃ fd, FunD K "_law_can" "_law_can" (defArgs (top 27)) (defBody (top 27)) (defScope (top 27)) [] [] (He.ga K "_law_can") fd
  g_law_lift : mg "_law_lift" = some (.ref (He.ga K "_law_lift"))
  f_law_lift : ∃ fd, FunD K "_law_lift" "_law_lift" (defArgs (top 28)) (defBody (top 28)) (defScope (top 28)) [] [] (He.ga K "_law_lift") fd
  g_law_pick : mg "_law_pick" = some (.ref (He.ga K "_law_pick"))
  f_law_pick : ∃ fd, FunD K "_law_pick" "_law_pick" (defArgs (top 29)) (defBody (top 29)) (defScope (top 29)) [] [] (He.ga K "_law_pick") fd
  g_law_some : mg "_law_some" = some (.ref (He.ga K "_law_some"))
  f_law_some : ∃ fd, FunD K "_law_some" "_law_some" (defArgs (top 30)) (defBody (top 30)) (defScope (top 30)) [] [] (He.ga K "_law_some") fd
  g_law_any_house : mg "_law_any_house" = some (.ref (He.ga K "_law_any_house"))
  f_law_any_house : ∃ fd, FunD K "_law_any_house" "_law_any_house" (defArgs (top 31)) (defBody (top 31)) (defScope (top 31)) [] [] (He.ga K "_law_any_house") fd
  g_is_integer : mg "is_integer" = some (.ref (He.ga K "is_integer"))
  f_is_integer : ∃ fd, FunD K "is_integer" "is_integer" (defArgs (top 17)) (defBody (top 17)) (defScope (top 17)) [] [] (He.ga K "is_integer") fd
  g_are_weekdays : mg "are_weekdays" = some (.ref (He.ga K "are_weekdays"))
  f_are_weekdays : ∃ fd, FunD K "are_weekdays" "are_weekdays" (defArgs (top 18)) (defBody (top 18)) (defScope (top 18)) [] [] (He.ga K "are_weekdays") fd
  g_is_house : mg "is_house" = some (.ref (He.ga K "is_house"))
  f_is_house : ∃ fd, FunD K "is_house" "is_house" (defArgs (top 19)) (defBody (top 19)) (defScope (top 19)) [] [] (He.ga K "is_house") fd
  g_need_house : mg "need_house" = some (.ref (He.ga K "need_house"))
  f_need_house : ∃ fd, FunD K "need_house" "need_house" (defArgs (top 20)) (defBody (top 20)) (defScope (top 20)) [] [] (He.ga K "need_house") fd
  g_text_of : mg "text_of" = some (.ref (He.ga K "text_of"))
  f_text_of : ∃ fd, FunD K "text_of" "text_of" (defArgs (top 22)) (defBody (top 22)) (defScope (top 22)) [] [] (He.ga K "text_of") fd
  g_house_text : mg "house_text" = some (.ref (He.ga K "house_text"))
  f_house_text : ∃ fd, FunD K "house_text" "house_text" (defArgs (top 23)) (defBody (top 23)) (defScope (top 23)) [] [] (He.ga K "house_text") fd
  g_house_in : mg "house_in" = some (.ref (He.ga K "house_in"))
  f_house_in : ∃ fd, FunD K "house_in" "house_in" (defArgs (top 24)) (defBody (top 24)) (defScope (top 24)) [] [] (He.ga K "house_in") fd
  g_read_house : mg "read_house" = some (.ref (He.ga K "read_house"))
  f_read_house : ∃ fd, FunD K "read_house" "read_house" (defArgs (top 25)) (defBody (top 25)) (defScope (top 25)) [] [] (He.ga K "read_house") fd
  g_law_names : mg "_law_names" = some (.ref (He.ga K "_law_names"))
  f_law_names : ∃ fd, FunD K "_law_names" "_law_names" (defArgs (top 39)) (defBody (top 39)) (defScope (top 39)) [] [] (He.ga K "_law_names") fd
  g_law_read : mg "_law_read" = some (.ref (He.ga K "_law_read"))
  f_law_read : ∃ fd, FunD K "_law_read" "_law_read" (defArgs (top 43)) (defBody (top 43)) (defScope (top 43)) [] [] (He.ga K "_law_read") fd
  g_law_spoilt : mg "_law_spoilt" = some (.ref (He.ga K "_law_spoilt"))
  f_law_spoilt : ∃ fd, FunD K "_law_spoilt" "_law_spoilt" (defArgs (top 42)) (defBody (top 42)) (defScope (top 42)) [] [] (He.ga K "_law_spoilt") fd
  g_law_int : mg "_law_int" = some (.ref (He.ga K "_law_int"))
  f_law_int : ∃ fd, FunD K "_law_int" "_law_int" (defArgs (top 33)) (defBody (top 33)) (defScope (top 33)) [] [] (He.ga K "_law_int") fd
  g_law_good_week : mg "_law_good_week" = some (.ref (He.ga K "_law_good_week"))
  f_law_good_week : ∃ fd, FunD K "_law_good_week" "_law_good_week" (defArgs (top 34)) (defBody (top 34)) (defScope (top 34)) [] [] (He.ga K "_law_good_week") fd
  g_law_good_house : mg "_law_good_house" = some (.ref (He.ga K "_law_good_house"))
  f_law_good_house : ∃ fd, FunD K "_law_good_house" "_law_good_house" (defArgs (top 35)) (defBody (top 35)) (defScope (top 35)) [] [] (He.ga K "_law_good_house") fd
  g_law_due : mg "_law_due" = some (.ref (He.ga K "_law_due"))
  f_law_due : ∃ fd, FunD K "_law_due" "_law_due" (defArgs (top 41)) (defBody (top 41)) (defScope (top 41)) [] [] (He.ga K "_law_due") fd
  g_law_any_value : mg "_law_any_value" = some (.ref (He.ga K "_law_any_value"))
  f_law_any_value : ∃ fd, FunD K "_law_any_value" "_law_any_value" (defArgs (top 37)) (defBody (top 37)) (defScope (top 37)) [] [] (He.ga K "_law_any_value") fd
  g_law_word : mg "_law_word" = some (.ref (He.ga K "_law_word"))
  f_law_word : ∃ fd, FunD K "_law_word" "_law_word" (defArgs (top 40)) (defBody (top 40)) (defScope (top 40)) [] [] (He.ga K "_law_word") fd
  g_law : mg "law" = some (.ref (He.ga K "law"))
  f_law : ∃ fd, FunD K "law" "law" (defArgs (top 44)) (defBody (top 44)) (defScope (top 44)) [] [] (He.ga K "law") fd
theorem sc_law_can : FnScope ["script", "k", "cell"] ["script", "k"] (defScope (top 27)) := ⟨rfl, rfl, rfl, by decide +kernel, rfl, by decide +kernel, by decide +kernel⟩
theorem dv_law_can {P : Program} {w : World} {K : PySem.W.Frag} {mg : Str → Option Value} {base : Heap} (C : Fc P w K mg base)  (f : Addr) (cdv : Value) (A : Around) (outer : List PySem.Env) (s : Shared) (H : Hp) (E : XK) (hr : Room 1 (A.deeper (envOfC "_law_can" (defScope (top 27)) s.heap.objs.size f cdv))) :
    DSs (cxOf (L2N.CX P w) P w K mg base ["script", "k", "cell"] "_law_can" (defScope (top 27)) f cdv A outer s H E) (WD E) (defBody (top 27)) t_law_can := by
  have nd := (sc_law_can).nd
  have tk : L2N.Takes (cxOf (L2N.CX P w) P w K mg base ["script", "k", "cell"] "_law_can" (defScope (top 27)) f cdv A outer s H E) (WD E) := L2N.takes_of rfl rfl rfl rfl
  have hp : PassesOwn (model P w) (A.deeper (envOfC "_law_can" (defScope (top 27)) s.heap.objs.size f cdv)) (cxOf (L2N.CX P w) P w K mg base ["script", "k", "cell"] "_law_can" (defScope (top 27)) f cdv A outer s H E).env (cxOf (L2N.CX P w) P w K mg base ["script", "k", "cell"] "_law_can" (defScope (top 27)) f cdv A outer s H E).xe := passes_of rfl
  exact ds_cons (ds_set 2 nd (de_ifE (dt_cmp or_lt od_lt (de_var 1) (de_b call_len cd_len C.b_len (da_cons (de_var 0) (da_nil))) (by rfl)) (de_b call_abs cd_abs C.b_abs (da_cons (de_ty cr_int cd_int C.b_int (da_cons (de_ix hr.u1 (de_var 0) (de_var 1)) (da_nil))) (da_nil))) (de_bin or_add od_add (de_bin or_mul od_mul (de_int) (de_var 1)) (de_int)))) (ds_one (ds_ret (de_newCan (da_cons (de_ifE (dt_cmp op_ge od_ge (de_var 2) (de_bin op_pow od_pow (de_int) (de_int)) (by rfl)) (de_var 2) (de_int)) (da_cons (de_bin or_add od_add (de_bin op_mod od_mod (de_ty cr_int cd_int C.b_int (da_cons (de_bin or_add od_add (de_bin or_add od_add (de_bin or_mul od_mul (de_var 2) (de_int)) (de_bin or_mul od_mul (de_int) (de_var 1))) (de_int)) (da_nil))) (de_int)) (de_int)) (da_nil))))))
theorem ln_law_can : ∀ ds M Q R, S_law_can ds M Q R → ds.length = 2 := by
  rintro ds M Q R ⟨_, _, _, rfl, _⟩
  rfl
theorem hs_law_can {P : Program} {w : World} {K : PySem.W.Frag} {mg : Str → Option Value} {base : Heap} (C : Fc P w K mg base)  : Has P w K mg base "_law_can" 2 ["script", "k"] S_law_can :=
  has_of C.f_law_can sc_law_can C.g_law_can (fun F => FunD.bindsN F fun _ _ _ _ _ _ us hl => match us, hl with | [_, _], _ => rfl) ln_law_can (fun f cdv A outer s H E hr => dv_law_can C  f cdv A outer s H E hr) kp_law_can
theorem sc_law_lift : FnScope ["can", "wide", "part", "far"] ["can", "wide"] (defScope (top 28)) := ⟨rfl, rfl, rfl, by decide +kernel, rfl, by decide +kernel, by decide +kernel⟩
theorem dv_law_lift {P : Program} {w : World} {K : PySem.W.Frag} {mg : Str → Option Value} {base : Heap} (C : Fc P w K mg base)  (f : Addr) (cdv : Value) (A : Around) (outer : List PySem.Env) (s : Shared) (H : Hp) (E : XK) (hr : Room 1 (A.deeper (envOfC "_law_lift" (defScope (top 28)) s.heap.objs.size f cdv))) :
    DSs (cxOf (L2N.CX P w) P w K mg base ["can", "wide", "part", "far"] "_law_lift" (defScope (top 28)) f cdv A outer s H E) (WD E) (defBody (top 28)) t_law_lift := by
  have nd := (sc_law_lift).nd
  have tk : L2N.Takes (cxOf (L2N.CX P w) P w K mg base ["can", "wide", "part", "far"] "_law_lift" (defScope (top 28)) f cdv A outer s H E) (WD E) := L2N.takes_of rfl rfl rfl rfl
  have hp : PassesOwn (model P w) (A.deeper (envOfC "_law_lift" (defScope (top 28)) s.heap.objs.size f cdv)) (cxOf (L2N.CX P w) P w K mg base ["can", "wide", "part", "far"] "_law_lift" (defScope (top 28)) f cdv A outer s H E).env (cxOf (L2N.CX P w) P w K mg base ["can", "wide", "part", "far"] "_law_lift" (defScope (top 28)) f cdv A outer s H E).xe := passes_of rfl
  exact ds_cons (ds_if (dt_cmp op_gt od_gt (de_ix hr.u1 (de_var 0) (de_int)) (de_int) (by rfl)) (ds_cons (ds_set 2 nd (de_bin op_mod od_mod (de_ty cr_int cd_int C.b_int (da_cons (de_ix hr.u1 (de_var 0) (de_int)) (da_nil))) (de_var 1))) (ds_cons (ds_put hr.u1 (de_var 0) (de_int) (de_bin op_fdivW od_div (de_ix hr.u1 (de_var 0) (de_int)) (de_var 1))) (ds_one (ds_ret (de_var 2))))) (ds_nil)) (ds_cons (ds_put hr.u1 (de_var 0) (de_int) (de_bin op_mod od_mod (de_ty cr_int cd_int C.b_int (da_cons (de_bin or_add od_add (de_bin or_mul od_mul (de_ix hr.u1 (de_var 0) (de_int)) (de_int)) (de_int)) (da_nil))) (de_int))) (ds_cons (ds_set 3 nd (de_bin op_mod od_mod (de_ty cr_int cd_int C.b_int (da_cons (de_bin or_mul od_mul (de_ix hr.u1 (de_var 0) (de_int)) (de_bin or_add od_add (de_bin op_fdivW od_div (de_ix hr.u1 (de_var 0) (de_int)) (de_int)) (de_int))) (da_nil))) (de_int))) (ds_one (ds_ret (de_bin op_mod od_mod (de_ty cr_int cd_int C.b_int (da_cons (de_bin op_fdivW od_div (de_var 3) (de_int)) (da_nil))) (de_var 1))))))
theorem ln_law_lift : ∀ ds M Q R, S_law_lift ds M Q R → ds.length = 2 := by
  rintro ds M Q R ⟨_, _, _, _, _, rfl, _⟩
  rfl
theorem hs_law_lift {P : Program} {w : World} {K : PySem.W.Frag} {mg : Str → Option Value} {base : Heap} (C : Fc P w K mg base)  : Has P w K mg base "_law_lift" 2 ["can", "wide"] S_law_lift :=
  has_of C.f_law_lift sc_law_lift C.g_law_lift (fun F => FunD.bindsN F fun _ _ _ _ _ _ us hl => match us, hl with | [_, _], _ => rfl) ln_law_lift (fun f cdv A outer s H E hr => dv_law_lift C  f cdv A outer s H E hr) kp_law_lift
theorem sc_law_pick : FnScope ["can", "things"] ["can", "things"] (defScope (top 29)) := ⟨rfl, rfl, rfl, by decide +kernel, rfl, by decide +kernel, by decide +kernel⟩
theorem dv_law_pick {P : Program} {w : World} {K : PySem.W.Frag} {mg : Str → Option Value} {base : Heap} (C : Fc P w K mg base) (h_law_lift : Has P w K mg base "_law_lift" 2 ["can", "wide"] S_law_lift) (f : Addr) (cdv : Value) (A : Around) (outer : List PySem.Env) (s : Shared) (H : Hp) (E : XK) (hr : Room 2 (A.deeper (envOfC "_law_pick" (defScope (top 29)) s.heap.objs.size f cdv))) :
    DSs (cxOf (L2N.CX P w) P w K mg base ["can", "things"] "_law_pick" (defScope (top 29)) f cdv A outer s H E) (WD E) (defBody (top 29)) t_law_pick := by
  have nd := (sc_law_pick).nd
  have tk : L2N.Takes (cxOf (L2N.CX P w) P w K mg base ["can", "things"] "_law_pick" (defScope (top 29)) f cdv A outer s H E) (WD E) := L2N.takes_of rfl rfl rfl rfl
  have hp : PassesOwn (model P w) (A.deeper (envOfC "_law_pick" (defScope (top 29)) s.heap.objs.size f cdv)) (cxOf (L2N.CX P w) P w K mg base ["can", "things"] "_law_pick" (defScope (top 29)) f cdv A outer s H E).env (cxOf (L2N.CX P w) P w K mg base ["can", "things"] "_law_pick" (defScope (top 29)) f cdv A outer s H E).xe := passes_of rfl
  exact ds_one (ds_ret (de_ix hr.u1 (de_var 1) (de_callH h_law_lift hr (by decide) tk (da_cons (de_var 0) (da_cons (de_b call_len cd_len C.b_len (da_cons (de_var 1) (da_nil))) (da_nil))))))
theorem ln_law_pick : ∀ ds M Q R, S_law_pick ds M Q R → ds.length = 2 := by
  rintro ds M Q R ⟨_, _, _, _, _, _, _, rfl, _⟩
  rfl
theorem hs_law_pick {P : Program} {w : World} {K : PySem.W.Frag} {mg : Str → Option Value} {base : Heap} (C : Fc P w K mg base) (h_law_lift : Has P w K mg base "_law_lift" 2 ["can", "wide"] S_law_lift) : Has P w K mg base "_law_pick" 3 ["can", "things"] S_law_pick :=
  has_of C.f_law_pick sc_law_pick C.g_law_pick (fun F => FunD.bindsN F fun _ _ _ _ _ _ us hl => match us, hl with | [_, _], _ => rfl) ln_law_pick (fun f cdv A outer s H E hr => dv_law_pick C h_law_lift f cdv A outer s H E hr) kp_law_pick
theorem sc_law_some : FnScope ["can", "share", "found", "figure"] ["can", "share"] (defScope (top 30)) := ⟨rfl, rfl, rfl, by decide +kernel, rfl, by decide +kernel, by decide +kernel⟩
theorem dv_law_some {P : Program} {w : World} {K : PySem.W.Frag} {mg : Str → Option Value} {base : Heap} (C : Fc P w K mg base) (h_law_lift : Has P w K mg base "_law_lift" 2 ["can", "wide"] S_law_lift) (h_law_pick : Has P w K mg base "_law_pick" 3 ["can", "things"] S_law_pick) (f : Addr) (cdv : Value) (A : Around) (outer : List PySem.Env) (s : Shared) (H : Hp) (E : XK) (hr : Room 3 (A.deeper (envOfC "_law_some" (defScope (top 30)) s.heap.objs.size f cdv))) :
    DSs (cxOf (L2N.CX P w) P w K mg base ["can", "share", "found", "figure"] "_law_some" (defScope (top 30)) f cdv A outer s H E) (WD E) (defBody (top 30)) t_law_some := by
  have nd := (sc_law_some).nd
  have tk : L2N.Takes (cxOf (L2N.CX P w) P w K mg base ["can", "share", "found", "figure"] "_law_some" (defScope (top 30)) f cdv A outer s H E) (WD E) := L2N.takes_of rfl rfl rfl rfl
  have hp : PassesOwn (model P w) (A.deeper (envOfC "_law_some" (defScope (top 30)) s.heap.objs.size f cdv)) (cxOf (L2N.CX P w) P w K mg base ["can", "share", "found", "figure"] "_law_some" (defScope (top 30)) f cdv A outer s H E).env (cxOf (L2N.CX P w) P w K mg base ["can", "share", "found", "figure"] "_law_some" (defScope (top 30)) f cdv A outer s H E).xe := passes_of rfl
  exact ds_cons (ds_set 2 nd (de_join (de_str) (de_lc rfl nd (di_str (de_str)) (blkOk_by (own := [("figure", 3)]) rfl) (by decide) (fun s H C0 cl fp => dg_name 3 nd) (fun s H C0 cl fp => dts_one (dt_cmp op_gt od_gt (de_callH h_law_lift hr (by decide) takes0 (da_cons (de_var 0) (da_cons (de_var 1) (da_nil)))) (de_int) (by rfl))) (fun s H C0 cl fp => de_var 3)))) (ds_one (ds_ret (de_ifE (dt_cmp (op_neD hr.u64) od_ne (de_var 2) (de_str) (by rfl)) (de_var 2) (de_callH h_law_pick hr (by decide) tk (da_cons (de_var 0) (da_cons (de_str) (da_nil)))))))
theorem ln_law_some : ∀ ds M Q R, S_law_some ds M Q R → ds.length = 2 := by
  rintro ds M Q R ⟨_, _, _, _, _, rfl, _⟩
  rfl
theorem hs_law_some {P : Program} {w : World} {K : PySem.W.Frag} {mg : Str → Option Value} {base : Heap} (C : Fc P w K mg base) (h_law_lift : Has P w K mg base "_law_lift" 2 ["can", "wide"] S_law_lift) (h_law_pick : Has P w K mg base "_law_pick" 3 ["can", "things"] S_law_pick) : Has P w K mg base "_law_some" 4 ["can", "share"] S_law_some :=
  has_of C.f_law_some sc_law_some C.g_law_some (fun F => FunD.bindsN F fun _ _ _ _ _ _ us hl => match us, hl with | [_, _], _ => rfl) ln_law_some (fun f cdv A outer s H E hr => dv_law_some C h_law_lift h_law_pick f cdv A outer s H E hr) kp_law_some
theorem sc_law_any_house : FnScope ["can", "run", "quick", "tasks"] ["can"] (defScope (top 31)) := ⟨rfl, rfl, rfl, by decide +kernel, rfl, by decide +kernel, by decide +kernel⟩
theorem dv_law_any_house {P : Program} {w : World} {K : PySem.W.Frag} {mg : Str → Option Value} {base : Heap} (C : Fc P w K mg base) (h_law_lift : Has P w K mg base "_law_lift" 2 ["can", "wide"] S_law_lift) (h_law_pick : Has P w K mg base "_law_pick" 3 ["can", "things"] S_law_pick) (h_law_some : Has P w K mg base "_law_some" 4 ["can", "share"] S_law_some) (f : Addr) (cdv : Value) (A : Around) (outer : List PySem.Env) (s : Shared) (H : Hp) (E : XK) (hr : Room 4 (A.deeper (envOfC "_law_any_house" (defScope (top 31)) s.heap.objs.size f cdv))) :
    DSs (cxOf (L2N.CX P w) P w K mg base ["can", "run", "quick", "tasks"] "_law_any_house" (defScope (top 31)) f cdv A outer s H E) (WD E) (defBody (top 31)) t_law_any_house := by
  have nd := (sc_law_any_house).nd
  have tk : L2N.Takes (cxOf (L2N.CX P w) P w K mg base ["can", "run", "quick", "tasks"] "_law_any_house" (defScope (top 31)) f cdv A outer s H E) (WD E) := L2N.takes_of rfl rfl rfl rfl
  have hp : PassesOwn (model P w) (A.deeper (envOfC "_law_any_house" (defScope (top 31)) s.heap.objs.size f cdv)) (cxOf (L2N.CX P w) P w K mg base ["can", "run", "quick", "tasks"] "_law_any_house" (defScope (top 31)) f cdv A outer s H E).env (cxOf (L2N.CX P w) P w K mg base ["can", "run", "quick", "tasks"] "_law_any_house" (defScope (top 31)) f cdv A outer s H E).xe := passes_of rfl
  exact ds_cons (ds_set 1 nd (de_callH h_law_some hr (by decide) tk (da_cons (de_var 0) (da_cons (de_callH h_law_pick hr (by decide) tk (da_cons (de_var 0) (da_cons (de_lst (da_cons (de_int) (da_cons (de_int) (da_cons (de_int) (da_nil))))) (da_nil)))) (da_nil))))) (ds_cons (ds_set 2 nd (de_bin or_add od_add (de_int) (de_callH h_law_lift hr (by decide) tk (da_cons (de_var 0) (da_cons (de_callH h_law_pick hr (by decide) tk (da_cons (de_var 0) (da_cons (de_lst (da_cons (de_int) (da_cons (de_int) (da_cons (de_int) (da_nil))))) (da_nil)))) (da_nil)))))) (ds_cons (ds_set 3 nd (de_sl (de_callH h_law_some hr (by decide) tk (da_cons (de_var 0) (da_cons (de_callH h_law_pick hr (by decide) tk (da_cons (de_var 0) (da_cons (de_lst (da_cons (de_int) (da_cons (de_int) (da_nil)))) (da_nil)))) (da_nil)))) (do_none) (do_some (de_bin or_mul od_mul (de_var 2) (de_b call_len cd_len C.b_len (da_cons (de_var 1) (da_nil))))))) (ds_one (ds_ret (de_tup (da_cons (de_var 3) (da_cons (de_var 1) (da_cons (de_var 2) (da_nil)))))))))
theorem ln_law_any_house : ∀ ds M Q R, S_law_any_house ds M Q R → ds.length = 1 := by
  rintro ds M Q R ⟨_, _, rfl, _⟩
  rfl
theorem hs_law_any_house {P : Program} {w : World} {K : PySem.W.Frag} {mg : Str → Option Value} {base : Heap} (C : Fc P w K mg base) (h_law_lift : Has P w K mg base "_law_lift" 2 ["can", "wide"] S_law_lift) (h_law_pick : Has P w K mg base "_law_pick" 3 ["can", "things"] S_law_pick) (h_law_some : Has P w K mg base "_law_some" 4 ["can", "share"] S_law_some) : Has P w K mg base "_law_any_house" 5 ["can"] S_law_any_house :=
  has_of C.f_law_any_house sc_law_any_house C.g_law_any_house (fun F => FunD.bindsN F fun _ _ _ _ _ _ us hl => match us, hl with | [_], _ => rfl) ln_law_any_house (fun f cdv A outer s H E hr => dv_law_any_house C h_law_lift h_law_pick h_law_some f cdv A outer s H E hr) kp_law_any_house
theorem sc_is_integer : FnScope ["value", "low", "high"] ["value", "low", "high"] (defScope (top 17)) := ⟨rfl, rfl, rfl, by decide +kernel, rfl, by decide +kernel, by decide +kernel⟩
theorem dv_is_integer {P : Program} {w : World} {K : PySem.W.Frag} {mg : Str → Option Value} {base : Heap} (C : Fc P w K mg base)  (f : Addr) (cdv : Value) (A : Around) (outer : List PySem.Env) (s : Shared) (H : Hp) (E : XK) (hr : Room 1 (A.deeper (envOfC "is_integer" (defScope (top 17)) s.heap.objs.size f cdv))) :
    DSs (cxOf (L2N.CX P w) P w K mg base ["value", "low", "high"] "is_integer" (defScope (top 17)) f cdv A outer s H E) (WD E) (defBody (top 17)) t_is_integer := by
  have nd := (sc_is_integer).nd
  have tk : L2N.Takes (cxOf (L2N.CX P w) P w K mg base ["value", "low", "high"] "is_integer" (defScope (top 17)) f cdv A outer s H E) (WD E) := L2N.takes_of rfl rfl rfl rfl
  have hp : PassesOwn (model P w) (A.deeper (envOfC "is_integer" (defScope (top 17)) s.heap.objs.size f cdv)) (cxOf (L2N.CX P w) P w K mg base ["value", "low", "high"] "is_integer" (defScope (top 17)) f cdv A outer s H E).env (cxOf (L2N.CX P w) P w K mg base ["value", "low", "high"] "is_integer" (defScope (top 17)) f cdv A outer s H E).xe := passes_of rfl
  exact ds_one (ds_ret (de_and (de_isi isty_int (by decide +kernel) (de_var 0) C.b_isinstance C.b_int) (de_and (de_not (de_isi isty_bool (by decide +kernel) (de_var 0) C.b_isinstance C.b_bool)) (de_and1 (de_chain or_le or_le od_le od_le (de_var 1) (de_var 0) (de_var 2))))))
theorem ln_is_integer : ∀ ds M Q R, S_is_integer ds M Q R → ds.length = 3 := by
  rintro ds M Q R ⟨_, _, _, _, rfl, _⟩
  rfl
theorem hs_is_integer {P : Program} {w : World} {K : PySem.W.Frag} {mg : Str → Option Value} {base : Heap} (C : Fc P w K mg base)  : Has P w K mg base "is_integer" 2 ["value", "low", "high"] S_is_integer :=
  has_of C.f_is_integer sc_is_integer C.g_is_integer (fun F => FunD.bindsN F fun _ _ _ _ _ _ us hl => match us, hl with | [_, _, _], _ => rfl) ln_is_integer (fun f cdv A outer s H E hr => dv_is_integer C  f cdv A outer s H E hr) kp_is_integer
theorem sc_are_weekdays : FnScope ["value", "figure", "sooner", "later"] ["value"] (defScope (top 18)) := ⟨rfl, rfl, rfl, by decide +kernel, rfl, by decide +kernel, by decide +kernel⟩
theorem dv_are_weekdays {P : Program} {w : World} {K : PySem.W.Frag} {mg : Str → Option Value} {base : Heap} (C : Fc P w K mg base)  (f : Addr) (cdv : Value) (A : Around) (outer : List PySem.Env) (s : Shared) (H : Hp) (E : XK) (hr : Room 1 (A.deeper (envOfC "are_weekdays" (defScope (top 18)) s.heap.objs.size f cdv))) :
    DSs (cxOf (L2N.CX P w) P w K mg base ["value", "figure", "sooner", "later"] "are_weekdays" (defScope (top 18)) f cdv A outer s H E) (WD E) (defBody (top 18)) t_are_weekdays := by
  have nd := (sc_are_weekdays).nd
  have tk : L2N.Takes (cxOf (L2N.CX P w) P w K mg base ["value", "figure", "sooner", "later"] "are_weekdays" (defScope (top 18)) f cdv A outer s H E) (WD E) := L2N.takes_of rfl rfl rfl rfl
  have hp : PassesOwn (model P w) (A.deeper (envOfC "are_weekdays" (defScope (top 18)) s.heap.objs.size f cdv)) (cxOf (L2N.CX P w) P w K mg base ["value", "figure", "sooner", "later"] "are_weekdays" (defScope (top 18)) f cdv A outer s H E).env (cxOf (L2N.CX P w) P w K mg base ["value", "figure", "sooner", "later"] "are_weekdays" (defScope (top 18)) f cdv A outer s H E).xe := passes_of rfl
  exact ds_cons (ds_if ((dw_or (dt_not (dt_val (de_isi isty_str (by decide +kernel) (de_var 0) C.b_isinstance C.b_str))) (dw_or1 (dt_not (dt_val (de_b (cr_all rfl) cd_all C.b_all (da_cons (de_lc rfl nd (di_str (de_var 0)) (blkOk_by (own := [("figure", 1)]) rfl) (by decide) (fun s H C0 cl fp => dg_name 1 nd) (fun s H C0 cl fp => dts_nil) (fun s H C0 cl fp => de_cmp (or_in hr.u65) od_in (de_var 1) (de_gstr C.c_FIGURES) (by rfl))) (da_nil))))))).pt) (ds_one (ds_ret (de_bl))) (ds_nil)) (ds_one (ds_ret (de_b (cr_all rfl) cd_all C.b_all (da_cons (de_lc rfl nd (di_zip C.b_zip (de_var 0) (de_sl (de_var 0) (do_some (de_int)) (do_none))) (blkOk_by (own := [("sooner", 2), ("later", 3)]) rfl) (by decide) (fun s H C0 cl fp => dg_tup rfl (goes_cons (goes_name 2) (goes_cons (goes_name 3) (goes_nil))) (dgs_cons (dg_name 2 nd) (dgs_cons (dg_name 3 nd) (dgs_nil)))) (fun s H C0 cl fp => dts_nil) (fun s H C0 cl fp => de_cmp or_lt od_lt (de_var 2) (de_var 3) (by rfl))) (da_nil)))))
theorem ln_are_weekdays : ∀ ds M Q R, S_are_weekdays ds M Q R → ds.length = 1 := by
  rintro ds M Q R ⟨_, _, rfl, _⟩
  rfl
theorem hs_are_weekdays {P : Program} {w : World} {K : PySem.W.Frag} {mg : Str → Option Value} {base : Heap} (C : Fc P w K mg base)  : Has P w K mg base "are_weekdays" 2 ["value"] S_are_weekdays :=
  has_of C.f_are_weekdays sc_are_weekdays C.g_are_weekdays (fun F => FunD.bindsN F fun _ _ _ _ _ _ us hl => match us, hl with | [_], _ => rfl) ln_are_weekdays (fun f cdv A outer s H E hr => dv_are_weekdays C  f cdv A outer s H E hr) kp_are_weekdays
theorem sc_is_house : FnScope ["value"] ["value"] (defScope (top 19)) := ⟨rfl, rfl, rfl, by decide +kernel, rfl, by decide +kernel, by decide +kernel⟩
theorem dv_is_house {P : Program} {w : World} {K : PySem.W.Frag} {mg : Str → Option Value} {base : Heap} (C : Fc P w K mg base) (h_is_integer : Has P w K mg base "is_integer" 2 ["value", "low", "high"] S_is_integer) (h_are_weekdays : Has P w K mg base "are_weekdays" 2 ["value"] S_are_weekdays) (f : Addr) (cdv : Value) (A : Around) (outer : List PySem.Env) (s : Shared) (H : Hp) (E : XK) (hr : Room 2 (A.deeper (envOfC "is_house" (defScope (top 19)) s.heap.objs.size f cdv))) :
    DSs (cxOf (L2N.CX P w) P w K mg base ["value"] "is_house" (defScope (top 19)) f cdv A outer s H E) (WD E) (defBody (top 19)) t_is_house := by
  have nd := (sc_is_house).nd
  have tk : L2N.Takes (cxOf (L2N.CX P w) P w K mg base ["value"] "is_house" (defScope (top 19)) f cdv A outer s H E) (WD E) := L2N.takes_of rfl rfl rfl rfl
  have hp : PassesOwn (model P w) (A.deeper (envOfC "is_house" (defScope (top 19)) s.heap.objs.size f cdv)) (cxOf (L2N.CX P w) P w K mg base ["value"] "is_house" (defScope (top 19)) f cdv A outer s H E).env (cxOf (L2N.CX P w) P w K mg base ["value"] "is_house" (defScope (top 19)) f cdv A outer s H E).xe := passes_of rfl
  exact ds_cons (ds_if ((dw_or (dt_not (dt_val (de_isi isty_tup (by decide +kernel) (de_var 0) C.b_isinstance C.b_tuple))) (dw_or (dt_cmp (op_neD hr.u64) od_ne (de_b call_len cd_len C.b_len (da_cons (de_var 0) (da_nil))) (de_int) (by rfl)) (dw_or1 (dt_not (dt_val (de_callH h_is_integer hr (by decide) tk (da_cons (de_ix hr.u1 (de_var 0) (de_int)) (da_cons (de_int) (da_cons (de_gint C.c_MOST_SPEED) (da_nil)))))))))).pt) (ds_one (ds_ret (de_bl))) (ds_nil)) (ds_cons (ds_if ((dw_or (dt_not (dt_val (de_callH h_are_weekdays hr (by decide) tk (da_cons (de_ix hr.u1 (de_var 0) (de_int)) (da_nil))))) (dw_or (dt_not (dt_val (de_callH h_are_weekdays hr (by decide) tk (da_cons (de_ix hr.u1 (de_var 0) (de_int)) (da_nil))))) (dw_or (dt_cmp (op_eqD hr.u64) od_eq (de_ix hr.u1 (de_var 0) (de_int)) (de_str) (by rfl)) (dw_or1 (dt_cmp (op_eqD hr.u64) od_eq (de_ix hr.u1 (de_var 0) (de_int)) (de_str) (by rfl)))))).pt) (ds_one (ds_ret (de_bl))) (ds_nil)) (ds_one (ds_ret (de_cmp or_le od_le (de_b call_len cd_len C.b_len (da_cons (de_ix hr.u1 (de_var 0) (de_int)) (da_nil))) (de_bin or_mul od_mul (de_ix hr.u1 (de_var 0) (de_int)) (de_b call_len cd_len C.b_len (da_cons (de_ix hr.u1 (de_var 0) (de_int)) (da_nil)))) (by rfl)))))
theorem ln_is_house : ∀ ds M Q R, S_is_house ds M Q R → ds.length = 1 := by
  rintro ds M Q R ⟨_, _, rfl, _⟩
  rfl
theorem hs_is_house {P : Program} {w : World} {K : PySem.W.Frag} {mg : Str → Option Value} {base : Heap} (C : Fc P w K mg base) (h_is_integer : Has P w K mg base "is_integer" 2 ["value", "low", "high"] S_is_integer) (h_are_weekdays : Has P w K mg base "are_weekdays" 2 ["value"] S_are_weekdays) : Has P w K mg base "is_house" 3 ["value"] S_is_house :=
  has_of C.f_is_house sc_is_house C.g_is_house (fun F => FunD.bindsN F fun _ _ _ _ _ _ us hl => match us, hl with | [_], _ => rfl) ln_is_house (fun f cdv A outer s H E hr => dv_is_house C h_is_integer h_are_weekdays f cdv A outer s H E hr) kp_is_house
theorem sc_need_house : FnScope ["value"] ["value"] (defScope (top 20)) := ⟨rfl, rfl, rfl, by decide +kernel, rfl, by decide +kernel, by decide +kernel⟩
theorem dv_need_house {P : Program} {w : World} {K : PySem.W.Frag} {mg : Str → Option Value} {base : Heap} (C : Fc P w K mg base) (h_is_house : Has P w K mg base "is_house" 3 ["value"] S_is_house) (f : Addr) (cdv : Value) (A : Around) (outer : List PySem.Env) (s : Shared) (H : Hp) (E : XK) (hr : Room 3 (A.deeper (envOfC "need_house" (defScope (top 20)) s.heap.objs.size f cdv))) :
    DSs (cxOf (L2N.CX P w) P w K mg base ["value"] "need_house" (defScope (top 20)) f cdv A outer s H E) (WD E) (defBody (top 20)) t_need_house := by
  have nd := (sc_need_house).nd
  have tk : L2N.Takes (cxOf (L2N.CX P w) P w K mg base ["value"] "need_house" (defScope (top 20)) f cdv A outer s H E) (WD E) := L2N.takes_of rfl rfl rfl rfl
  have hp : PassesOwn (model P w) (A.deeper (envOfC "need_house" (defScope (top 20)) s.heap.objs.size f cdv)) (cxOf (L2N.CX P w) P w K mg base ["value"] "need_house" (defScope (top 20)) f cdv A outer s H E).env (cxOf (L2N.CX P w) P w K mg base ["value"] "need_house" (defScope (top 20)) f cdv A outer s H E).xe := passes_of rfl
  exact ds_one (ds_if (dt_not (dt_val (de_callH h_is_house hr (by decide) tk (da_cons (de_var 0) (da_nil))))) (ds_one (ds_raiseH rfl tk C.g_InvalidHouse C.x_InvalidHouse)) (ds_nil))
theorem ln_need_house : ∀ ds M Q R, S_need_house ds M Q R → ds.length = 1 := by
  rintro ds M Q R ⟨_, _, rfl, _⟩
  rfl
theorem hs_need_house {P : Program} {w : World} {K : PySem.W.Frag} {mg : Str → Option Value} {base : Heap} (C : Fc P w K mg base) (h_is_house : Has P w K mg base "is_house" 3 ["value"] S_is_house) : Has P w K mg base "need_house" 4 ["value"] S_need_house :=
  has_of C.f_need_house sc_need_house C.g_need_house (fun F => FunD.bindsN F fun _ _ _ _ _ _ us hl => match us, hl with | [_], _ => rfl) ln_need_house (fun f cdv A outer s H E hr => dv_need_house C h_is_house f cdv A outer s H E hr) kp_need_house
theorem sc_text_of : FnScope ["house"] ["house"] (defScope (top 22)) := ⟨rfl, rfl, rfl, by decide +kernel, rfl, by decide +kernel, by decide +kernel⟩
theorem dv_text_of {P : Program} {w : World} {K : PySem.W.Frag} {mg : Str → Option Value} {base : Heap} (C : Fc P w K mg base)  (f : Addr) (cdv : Value) (A : Around) (outer : List PySem.Env) (s : Shared) (H : Hp) (E : XK) (hr : Room 1 (A.deeper (envOfC "text_of" (defScope (top 22)) s.heap.objs.size f cdv))) :
    DSs (cxOf (L2N.CX P w) P w K mg base ["house"] "text_of" (defScope (top 22)) f cdv A outer s H E) (WD E) (defBody (top 22)) t_text_of := by
  have nd := (sc_text_of).nd
  have tk : L2N.Takes (cxOf (L2N.CX P w) P w K mg base ["house"] "text_of" (defScope (top 22)) f cdv A outer s H E) (WD E) := L2N.takes_of rfl rfl rfl rfl
  have hp : PassesOwn (model P w) (A.deeper (envOfC "text_of" (defScope (top 22)) s.heap.objs.size f cdv)) (cxOf (L2N.CX P w) P w K mg base ["house"] "text_of" (defScope (top 22)) f cdv A outer s H E).env (cxOf (L2N.CX P w) P w K mg base ["house"] "text_of" (defScope (top 22)) f cdv A outer s H E).xe := passes_of rfl
  exact ds_one (ds_ret (de_joined (DJ.cons (de_fmt (de_ix hr.u1 (de_var 0) (de_int))) (DJ.cons (de_str) (DJ.cons (de_fmt (de_ix hr.u1 (de_var 0) (de_int))) (DJ.cons (de_str) (DJ.cons (de_fmt (de_ix hr.u1 (de_var 0) (de_int))) (DJ.nil))))))))
theorem ln_text_of : ∀ ds M Q R, S_text_of ds M Q R → ds.length = 1 := by
  rintro ds M Q R ⟨_, _, rfl, _⟩
  rfl
theorem hs_text_of {P : Program} {w : World} {K : PySem.W.Frag} {mg : Str → Option Value} {base : Heap} (C : Fc P w K mg base)  : Has P w K mg base "text_of" 2 ["house"] S_text_of :=
  has_of C.f_text_of sc_text_of C.g_text_of (fun F => FunD.bindsN F fun _ _ _ _ _ _ us hl => match us, hl with | [_], _ => rfl) ln_text_of (fun f cdv A outer s H E hr => dv_text_of C  f cdv A outer s H E hr) kp_text_of
theorem sc_house_text : FnScope ["house"] ["house"] (defScope (top 23)) := ⟨rfl, rfl, rfl, by decide +kernel, rfl, by decide +kernel, by decide +kernel⟩
theorem dv_house_text {P : Program} {w : World} {K : PySem.W.Frag} {mg : Str → Option Value} {base : Heap} (C : Fc P w K mg base) (h_need_house : Has P w K mg base "need_house" 4 ["value"] S_need_house) (h_text_of : Has P w K mg base "text_of" 2 ["house"] S_text_of) (f : Addr) (cdv : Value) (A : Around) (outer : List PySem.Env) (s : Shared) (H : Hp) (E : XK) (hr : Room 4 (A.deeper (envOfC "house_text" (defScope (top 23)) s.heap.objs.size f cdv))) :
    DSs (cxOf (L2N.CX P w) P w K mg base ["house"] "house_text" (defScope (top 23)) f cdv A outer s H E) (WD E) (defBody (top 23)) t_house_text := by
  have nd := (sc_house_text).nd
  have tk : L2N.Takes (cxOf (L2N.CX P w) P w K mg base ["house"] "house_text" (defScope (top 23)) f cdv A outer s H E) (WD E) := L2N.takes_of rfl rfl rfl rfl
  have hp : PassesOwn (model P w) (A.deeper (envOfC "house_text" (defScope (top 23)) s.heap.objs.size f cdv)) (cxOf (L2N.CX P w) P w K mg base ["house"] "house_text" (defScope (top 23)) f cdv A outer s H E).env (cxOf (L2N.CX P w) P w K mg base ["house"] "house_text" (defScope (top 23)) f cdv A outer s H E).xe := passes_of rfl
  exact ds_cons (ds_expr (de_callH h_need_house hr (by decide) tk (da_cons (de_var 0) (da_nil)))) (ds_one (ds_ret (de_callH h_text_of hr (by decide) tk (da_cons (de_var 0) (da_nil)))))
theorem ln_house_text : ∀ ds M Q R, S_house_text ds M Q R → ds.length = 1 := by
  rintro ds M Q R ⟨_, _, rfl, _⟩
  rfl
theorem hs_house_text {P : Program} {w : World} {K : PySem.W.Frag} {mg : Str → Option Value} {base : Heap} (C : Fc P w K mg base) (h_need_house : Has P w K mg base "need_house" 4 ["value"] S_need_house) (h_text_of : Has P w K mg base "text_of" 2 ["house"] S_text_of) : Has P w K mg base "house_text" 5 ["house"] S_house_text :=
  has_of C.f_house_text sc_house_text C.g_house_text (fun F => FunD.bindsN F fun _ _ _ _ _ _ us hl => match us, hl with | [_], _ => rfl) ln_house_text (fun f cdv A outer s H E hr => dv_house_text C h_need_house h_text_of f cdv A outer s H E hr) kp_house_text
theorem sc_house_in : FnScope ["value", "parts", "ends"] ["value"] (defScope (top 24)) := ⟨rfl, rfl, rfl, by decide +kernel, rfl, by decide +kernel, by decide +kernel⟩
theorem dv_house_in {P : Program} {w : World} {K : PySem.W.Frag} {mg : Str → Option Value} {base : Heap} (C : Fc P w K mg base)  (f : Addr) (cdv : Value) (A : Around) (outer : List PySem.Env) (s : Shared) (H : Hp) (E : XK) (hr : Room 1 (A.deeper (envOfC "house_in" (defScope (top 24)) s.heap.objs.size f cdv))) :
    DSs (cxOf (L2N.CX P w) P w K mg base ["value", "parts", "ends"] "house_in" (defScope (top 24)) f cdv A outer s H E) (WD E) (defBody (top 24)) t_house_in := by
  have nd := (sc_house_in).nd
  have tk : L2N.Takes (cxOf (L2N.CX P w) P w K mg base ["value", "parts", "ends"] "house_in" (defScope (top 24)) f cdv A outer s H E) (WD E) := L2N.takes_of rfl rfl rfl rfl
  have hp : PassesOwn (model P w) (A.deeper (envOfC "house_in" (defScope (top 24)) s.heap.objs.size f cdv)) (cxOf (L2N.CX P w) P w K mg base ["value", "parts", "ends"] "house_in" (defScope (top 24)) f cdv A outer s H E).env (cxOf (L2N.CX P w) P w K mg base ["value", "parts", "ends"] "house_in" (defScope (top 24)) f cdv A outer s H E).xe := passes_of rfl
  exact ds_cons (ds_set 1 nd (de_split (de_var 0) (de_str))) (ds_cons (ds_set 2 nd (de_split (de_ix hr.u1 (de_var 1) (de_un un_neg ud_neg (de_int))) (de_str))) (ds_cons (ds_if ((dw_or (dt_cmp (op_neD hr.u64) od_ne (de_b call_len cd_len C.b_len (da_cons (de_var 1) (da_nil))) (de_int) (by rfl)) (dw_or (dt_cmp (op_neD hr.u64) od_ne (de_b call_len cd_len C.b_len (da_cons (de_var 2) (da_nil))) (de_int) (by rfl)) (dw_or1 (dt_cmp (or_notin hr.u65) od_notin (de_ix hr.u1 (de_var 2) (de_int)) (de_tup (da_cons (de_str) (da_cons (de_str) (da_cons (de_str) (da_nil))))) (by rfl))))).pt) (ds_one (ds_ret (de_tup (da_nil)))) (ds_nil)) (ds_one (ds_ret (de_tup (da_cons (de_ix hr.u1 (de_var 1) (de_int)) (da_cons (de_ix hr.u1 (de_var 2) (de_int)) (da_cons (de_ty cr_int cd_int C.b_int (da_cons (de_ix hr.u1 (de_var 2) (de_int)) (da_nil))) (da_nil)))))))))
theorem ln_house_in : ∀ ds M Q R, S_house_in ds M Q R → ds.length = 1 := by
  rintro ds M Q R ⟨_, _, rfl, _⟩
  rfl
theorem hs_house_in {P : Program} {w : World} {K : PySem.W.Frag} {mg : Str → Option Value} {base : Heap} (C : Fc P w K mg base)  : Has P w K mg base "house_in" 2 ["value"] S_house_in :=
  has_of C.f_house_in sc_house_in C.g_house_in (fun F => FunD.bindsN F fun _ _ _ _ _ _ us hl => match us, hl with | [_], _ => rfl) ln_house_in (fun f cdv A outer s H E hr => dv_house_in C  f cdv A outer s H E hr) kp_house_in
theorem sc_read_house : FnScope ["value", "found"] ["value"] (defScope (top 25)) := ⟨rfl, rfl, rfl, by decide +kernel, rfl, by decide +kernel, by decide +kernel⟩
theorem dv_read_house {P : Program} {w : World} {K : PySem.W.Frag} {mg : Str → Option Value} {base : Heap} (C : Fc P w K mg base) (h_is_house : Has P w K mg base "is_house" 3 ["value"] S_is_house) (h_house_in : Has P w K mg base "house_in" 2 ["value"] S_house_in) (f : Addr) (cdv : Value) (A : Around) (outer : List PySem.Env) (s : Shared) (H : Hp) (E : XK) (hr : Room 3 (A.deeper (envOfC "read_house" (defScope (top 25)) s.heap.objs.size f cdv))) :
    DSs (cxOf (L2N.CX P w) P w K mg base ["value", "found"] "read_house" (defScope (top 25)) f cdv A outer s H E) (WD E) (defBody (top 25)) t_read_house := by
  have nd := (sc_read_house).nd
  have tk : L2N.Takes (cxOf (L2N.CX P w) P w K mg base ["value", "found"] "read_house" (defScope (top 25)) f cdv A outer s H E) (WD E) := L2N.takes_of rfl rfl rfl rfl
  have hp : PassesOwn (model P w) (A.deeper (envOfC "read_house" (defScope (top 25)) s.heap.objs.size f cdv)) (cxOf (L2N.CX P w) P w K mg base ["value", "found"] "read_house" (defScope (top 25)) f cdv A outer s H E).env (cxOf (L2N.CX P w) P w K mg base ["value", "found"] "read_house" (defScope (top 25)) f cdv A outer s H E).xe := passes_of rfl
  exact ds_cons (ds_set 1 nd (de_ifE (dt_val (de_isi isty_str (by decide +kernel) (de_var 0) C.b_isinstance C.b_str)) (de_callH h_house_in hr (by decide) tk (da_cons (de_var 0) (da_nil))) (de_tup (da_nil)))) (ds_cons (ds_if (dt_not (dt_val (de_callH h_is_house hr (by decide) tk (da_cons (de_var 1) (da_nil))))) (ds_one (ds_raiseH rfl tk C.g_InvalidText C.x_InvalidText)) (ds_nil)) (ds_one (ds_ret (de_var 1))))
theorem ln_read_house : ∀ ds M Q R, S_read_house ds M Q R → ds.length = 1 := by
  rintro ds M Q R ⟨_, _, _, rfl, _⟩
  rfl
theorem hs_read_house {P : Program} {w : World} {K : PySem.W.Frag} {mg : Str → Option Value} {base : Heap} (C : Fc P w K mg base) (h_is_house : Has P w K mg base "is_house" 3 ["value"] S_is_house) (h_house_in : Has P w K mg base "house_in" 2 ["value"] S_house_in) : Has P w K mg base "read_house" 4 ["value"] S_read_house :=
  has_of C.f_read_house sc_read_house C.g_read_house (fun F => FunD.bindsN F fun _ _ _ _ _ _ us hl => match us, hl with | [_], _ => rfl) ln_read_house (fun f cdv A outer s H E hr => dv_read_house C h_is_house h_house_in f cdv A outer s H E hr) kp_read_house
theorem sc_law_names : FnScope ["error", "some", "labels", "label", "good"] ["error"] (defScope (top 39)) := ⟨rfl, rfl, rfl, by decide +kernel, rfl, by decide +kernel, by decide +kernel⟩
theorem dv_law_names {P : Program} {w : World} {K : PySem.W.Frag} {mg : Str → Option Value} {base : Heap} (C : Fc P w K mg base) {c l : Str} (hw : word c = some l) (a : Addr) (oe : Obj) (f : Addr) (cdv : Value) (A : Around) (outer : List PySem.Env) (s : Shared) (H : Hp) (E : XK) (h1 : L2H.Hot1 A (a, oe)) (hz : Zc (.ref (He.ga K c)) none oe) (hf : ∃ vs, oe.data = .fields vs)
    (hr : L2H.RoomH 0 (A.deeper (envOfC "_law_names" (defScope (top 39)) s.heap.objs.size f cdv))) : DSs (L2H.cxH (L2N.CX P w) P w K mg base ["error", "some", "labels", "label", "good"] "_law_names" (defScope (top 39)) f cdv A outer s H E (a, oe)) (WD E) (defBody (top 39)) (t_law_names c a) := by
  have nd := sc_law_names.nd
  have eC := C.er.ec c l hw
  have eK := C.er.ek c l hw
  have eV := C.er.ev c l hw
  have hpn : (a, oe) ∈ (L2H.cxH (L2N.CX P w) P w K mg base ["error", "some", "labels", "label", "good"] "_law_names" (defScope (top 39)) f cdv A outer s H E (a, oe)).pn := List.mem_cons_self
  have hot : L2H.HotC (L2H.cxH (L2N.CX P w) P w K mg base ["error", "some", "labels", "label", "good"] "_law_names" (defScope (top 39)) f cdv A outer s H E (a, oe)) := ⟨(a, oe), h1, List.mem_cons_self⟩
  exact ds_cons (ds_set 1 nd (de_lst (da_cons (de_errIsC (D := He.ga K c) eC hpn hz hf C.b_isinstance (de_var 0) C.g_InvalidHouse (eK _ (by decide))) (da_cons (de_errIsC (D := He.ga K c) eC hpn hz hf C.b_isinstance (de_var 0) C.g_InvalidCalendar (eK _ (by decide))) (da_cons (de_errIsC (D := He.ga K c) eC hpn hz hf C.b_isinstance (de_var 0) C.g_InvalidDay (eK _ (by decide))) (da_nil)))))) (ds_cons (ds_set 1 nd (de_bin or_add od_add (de_var 1) (de_lst (da_cons (de_errIsC (D := He.ga K c) eC hpn hz hf C.b_isinstance (de_var 0) C.g_InvalidNumber (eK _ (by decide))) (da_cons (de_errIsC (D := He.ga K c) eC hpn hz hf C.b_isinstance (de_var 0) C.g_InvalidWeekdays (eK _ (by decide))) (da_nil)))))) (ds_cons (ds_set 1 nd (de_bin or_add od_add (de_var 1) (de_lst (da_cons (de_errIsC (D := He.ga K c) eC hpn hz hf C.b_isinstance (de_var 0) C.g_InvalidSeen (eK _ (by decide))) (da_cons (de_errIsC (D := He.ga K c) eC hpn hz hf C.b_isinstance (de_var 0) C.g_InvalidSign (eK _ (by decide))) (da_cons (de_errIsC (D := He.ga K c) eC hpn hz hf C.b_isinstance (de_var 0) C.g_InvalidText (eK _ (by decide))) (da_nil))))))) (ds_cons (ds_set 1 nd (de_bin or_add od_add (de_var 1) (de_lst (da_cons (de_errIsC (D := He.ga K c) eC hpn hz hf C.b_isinstance (de_var 0) C.g_Unlike (eK _ (by decide))) (da_cons (de_errIsC (D := He.ga K c) eC hpn hz hf C.b_isinstance (de_var 0) C.g_NothingToUndo (eK _ (by decide))) (da_cons (de_errIsC (D := He.ga K c) eC hpn hz hf C.b_isinstance (de_var 0) C.g_TooMany (eK _ (by decide))) (da_nil))))))) (ds_cons (ds_set 1 nd (de_bin or_add od_add (de_var 1) (de_lst (da_cons (de_errIsC (D := He.ga K c) eC hpn hz hf C.b_isinstance (de_var 0) C.g_Failed (eK _ (by decide))) (da_cons (de_errIsV (T := "ValueError") (D := He.ga K c) eC hpn hz hf C.b_isinstance (de_var 0) C.b_ValueError (by decide +kernel) eV) (da_nil)))))) (ds_cons (ds_set 2 nd (de_str)) (ds_one (ds_ret (de_join (de_str) (dq_lc hot nd (dq_zip C.b_zip (de_split (de_var 2) (de_str)) (de_var 1)) (blkOk_by (own := [("label", 3), ("good", 4)]) rfl) (by decide) (fun s H C0 cl fp hb => dg_tupH hb (goes_cons (goes_name 3) (goes_cons (goes_name 4) (goes_nil))) (dgs_cons (dg_name 3 nd) (dgs_cons (dg_name 4 nd) (dgs_nil)))) (fun s H C0 cl fp => dts_one (dt_val (de_var 4))) (fun s H C0 cl fp => de_var 3))))))))))
theorem hn_law_names {P : Program} {w : World} {K : PySem.W.Frag} {mg : Str → Option Value} {base : Heap} (C : Fc P w K mg base) : HasErr P w K mg base "_law_names" 1 word :=
  hasErr_of C.f_law_names sc_law_names C.g_law_names (fun F => FunD.bindsN F fun _ _ _ _ _ _ us hl => match us, hl with | [_], _ => rfl) (fun c l hw a oe f cdv A outer s H E h1 hz hf hr => dv_law_names C hw a oe f cdv A outer s H E h1 hz hf hr) kp_law_names
theorem sc_law_read : FnScope ["value", "error"] ["value"] (defScope (top 43)) := ⟨rfl, rfl, rfl, by decide +kernel, rfl, by decide +kernel, by decide +kernel⟩
theorem dv_law_read {P : Program} {w : World} {K : PySem.W.Frag} {mg : Str → Option Value} {base : Heap} (C : Fc P w K mg base) (h_read_house : Has P w K mg base "read_house" 4 ["value"] S_read_house) (h_names : HasErr P w K mg base "_law_names" 1 word) (f : Addr) (cdv : Value) (A : Around) (outer : List PySem.Env) (s : Shared) (H : Hp) (E : XK) (hr : Room 4 (A.deeper (envOfC "_law_read" (defScope (top 43)) s.heap.objs.size f cdv))) :
    DSs (cxOf (L2N.CX P w) P w K mg base ["value", "error"] "_law_read" (defScope (top 43)) f cdv A outer s H E) (WD E) (defBody (top 43)) t_law_read := by
  have nd := (sc_law_read).nd
  have tk : L2N.Takes (cxOf (L2N.CX P w) P w K mg base ["value", "error"] "_law_read" (defScope (top 43)) f cdv A outer s H E) (WD E) := L2N.takes_of rfl rfl rfl rfl
  have wf := wf_of C.er
  have hp : PassesOwn (model P w) (A.deeper (envOfC "_law_read" (defScope (top 43)) s.heap.objs.size f cdv)) (cxOf (L2N.CX P w) P w K mg base ["value", "error"] "_law_read" (defScope (top 43)) f cdv A outer s H E).env (cxOf (L2N.CX P w) P w K mg base ["value", "error"] "_law_read" (defScope (top 43)) f cdv A outer s H E).xe := passes_of rfl
  exact ds_one (ds_tryW (k := 1) 1 rfl rfl nd rfl rfl (Or.inl rfl) h_names wf C.g_RoundError (hr.mono (by decide)) (fun W pn xe tk hp => ds_one (ds_ret (de_callH h_read_house hr (by decide) tk (da_cons (de_var 0) (da_nil))))) tk)
theorem ln_law_read : ∀ ds M Q R, S_law_read ds M Q R → ds.length = 1 := by
  rintro ds M Q R ⟨_, _, _, rfl, _⟩
  rfl
theorem hs_law_read {P : Program} {w : World} {K : PySem.W.Frag} {mg : Str → Option Value} {base : Heap} (C : Fc P w K mg base) (h_read_house : Has P w K mg base "read_house" 4 ["value"] S_read_house) (h_names : HasErr P w K mg base "_law_names" 1 word) : Has P w K mg base "_law_read" 5 ["value"] S_law_read :=
  has_of C.f_law_read sc_law_read C.g_law_read (fun F => FunD.bindsN F fun _ _ _ _ _ _ us hl => match us, hl with | [_], _ => rfl) ln_law_read (fun f cdv A outer s H E hr => dv_law_read C h_read_house h_names f cdv A outer s H E hr) kp_law_read
theorem sc_law_spoilt : FnScope ["can", "text", "at", "way"] ["can", "text"] (defScope (top 42)) := ⟨rfl, rfl, rfl, by decide +kernel, rfl, by decide +kernel, by decide +kernel⟩
theorem dv_law_spoilt {P : Program} {w : World} {K : PySem.W.Frag} {mg : Str → Option Value} {base : Heap} (C : Fc P w K mg base) (h_law_lift : Has P w K mg base "_law_lift" 2 ["can", "wide"] S_law_lift) (h_law_pick : Has P w K mg base "_law_pick" 3 ["can", "things"] S_law_pick) (f : Addr) (cdv : Value) (A : Around) (outer : List PySem.Env) (s : Shared) (H : Hp) (E : XK) (hr : Room 3 (A.deeper (envOfC "_law_spoilt" (defScope (top 42)) s.heap.objs.size f cdv))) :
    DSs (cxOf (L2N.CX P w) P w K mg base ["can", "text", "at", "way"] "_law_spoilt" (defScope (top 42)) f cdv A outer s H E) (WD E) (defBody (top 42)) t_law_spoilt := by
  have nd := (sc_law_spoilt).nd
  have tk : L2N.Takes (cxOf (L2N.CX P w) P w K mg base ["can", "text", "at", "way"] "_law_spoilt" (defScope (top 42)) f cdv A outer s H E) (WD E) := L2N.takes_of rfl rfl rfl rfl
  have hp : PassesOwn (model P w) (A.deeper (envOfC "_law_spoilt" (defScope (top 42)) s.heap.objs.size f cdv)) (cxOf (L2N.CX P w) P w K mg base ["can", "text", "at", "way"] "_law_spoilt" (defScope (top 42)) f cdv A outer s H E).env (cxOf (L2N.CX P w) P w K mg base ["can", "text", "at", "way"] "_law_spoilt" (defScope (top 42)) f cdv A outer s H E).xe := passes_of rfl
  exact ds_cons (ds_par2 (i := 2) (j := 3) rfl nd (da_cons (de_callH h_law_lift hr (by decide) tk (da_cons (de_var 0) (da_cons (de_bin or_add od_add (de_b call_len cd_len C.b_len (da_cons (de_var 1) (da_nil))) (de_int)) (da_nil)))) (da_cons (de_callH h_law_lift hr (by decide) tk (da_cons (de_var 0) (da_cons (de_int) (da_nil)))) (da_nil)))) (ds_cons (ds_if (dt_cmp (op_eqD hr.u64) od_eq (de_var 3) (de_int) (by rfl)) (ds_one (ds_ret (de_bin or_add od_add (de_sl (de_var 1) (do_none) (do_some (de_var 2))) (de_sl (de_var 1) (do_some (de_bin or_add od_add (de_var 2) (de_int))) (do_none))))) (ds_nil)) (ds_cons (ds_if (dt_cmp (op_eqD hr.u64) od_eq (de_var 3) (de_int) (by rfl)) (ds_one (ds_ret (de_bin or_add od_add (de_bin or_add od_add (de_sl (de_var 1) (do_none) (do_some (de_var 2))) (de_callH h_law_pick hr (by decide) tk (da_cons (de_var 0) (da_cons (de_lst (da_cons (de_str) (da_cons (de_str) (da_cons (de_str) (da_cons (de_str) (da_cons (de_str) (da_cons (de_str) (da_cons (de_str) (da_cons (de_str) (da_cons (de_str) (da_nil))))))))))) (da_nil))))) (de_sl (de_var 1) (do_some (de_var 2)) (do_none))))) (ds_nil)) (ds_cons (ds_if (dt_cmp (op_eqD hr.u64) od_eq (de_var 3) (de_int) (by rfl)) (ds_one (ds_ret (de_bin or_add od_add (de_sl (de_var 1) (do_none) (do_some (de_var 2))) (de_rev (de_sl (de_var 1) (do_some (de_var 2)) (do_none)))))) (ds_nil)) (ds_one (ds_ret (de_bin or_add od_add (de_bin or_add od_add (de_sl (de_var 1) (do_none) (do_some (de_var 2))) (de_callH h_law_pick hr (by decide) tk (da_cons (de_var 0) (da_cons (de_lst (da_cons (de_str) (da_cons (de_str) (da_cons (de_str) (da_cons (de_str) (da_cons (de_str) (da_nil))))))) (da_nil))))) (de_sl (de_var 1) (do_some (de_bin or_add od_add (de_var 2) (de_int))) (do_none))))))))
theorem ln_law_spoilt : ∀ ds M Q R, S_law_spoilt ds M Q R → ds.length = 2 := by
  rintro ds M Q R ⟨_, _, _, _, _, _, rfl, _⟩
  rfl
theorem hs_law_spoilt {P : Program} {w : World} {K : PySem.W.Frag} {mg : Str → Option Value} {base : Heap} (C : Fc P w K mg base) (h_law_lift : Has P w K mg base "_law_lift" 2 ["can", "wide"] S_law_lift) (h_law_pick : Has P w K mg base "_law_pick" 3 ["can", "things"] S_law_pick) : Has P w K mg base "_law_spoilt" 4 ["can", "text"] S_law_spoilt :=
  has_of C.f_law_spoilt sc_law_spoilt C.g_law_spoilt (fun F => FunD.bindsN F fun _ _ _ _ _ _ us hl => match us, hl with | [_, _], _ => rfl) ln_law_spoilt (fun f cdv A outer s H E hr => dv_law_spoilt C h_law_lift h_law_pick f cdv A outer s H E hr) kp_law_spoilt
theorem sc_law_int : FnScope ["value", "low", "high"] ["value", "low", "high"] (defScope (top 33)) := ⟨rfl, rfl, rfl, by decide +kernel, rfl, by decide +kernel, by decide +kernel⟩
theorem dv_law_int {P : Program} {w : World} {K : PySem.W.Frag} {mg : Str → Option Value} {base : Heap} (C : Fc P w K mg base)  (f : Addr) (cdv : Value) (A : Around) (outer : List PySem.Env) (s : Shared) (H : Hp) (E : XK) (hr : Room 1 (A.deeper (envOfC "_law_int" (defScope (top 33)) s.heap.objs.size f cdv))) :
    DSs (cxOf (L2N.CX P w) P w K mg base ["value", "low", "high"] "_law_int" (defScope (top 33)) f cdv A outer s H E) (WD E) (defBody (top 33)) t_law_int := by
  have nd := (sc_law_int).nd
  have tk : L2N.Takes (cxOf (L2N.CX P w) P w K mg base ["value", "low", "high"] "_law_int" (defScope (top 33)) f cdv A outer s H E) (WD E) := L2N.takes_of rfl rfl rfl rfl
  have hp : PassesOwn (model P w) (A.deeper (envOfC "_law_int" (defScope (top 33)) s.heap.objs.size f cdv)) (cxOf (L2N.CX P w) P w K mg base ["value", "low", "high"] "_law_int" (defScope (top 33)) f cdv A outer s H E).env (cxOf (L2N.CX P w) P w K mg base ["value", "low", "high"] "_law_int" (defScope (top 33)) f cdv A outer s H E).xe := passes_of rfl
  exact ds_one (ds_ret (de_and (de_isi isty_int (by decide +kernel) (de_var 0) C.b_isinstance C.b_int) (de_and (de_not (de_isi isty_bool (by decide +kernel) (de_var 0) C.b_isinstance C.b_bool)) (de_and1 (de_chain or_le or_le od_le od_le (de_var 1) (de_var 0) (de_var 2))))))
theorem ln_law_int : ∀ ds M Q R, S_law_int ds M Q R → ds.length = 3 := by
  rintro ds M Q R ⟨_, _, _, _, rfl, _⟩
  rfl
theorem hs_law_int {P : Program} {w : World} {K : PySem.W.Frag} {mg : Str → Option Value} {base : Heap} (C : Fc P w K mg base)  : Has P w K mg base "_law_int" 2 ["value", "low", "high"] S_law_int :=
  has_of C.f_law_int sc_law_int C.g_law_int (fun F => FunD.bindsN F fun _ _ _ _ _ _ us hl => match us, hl with | [_, _, _], _ => rfl) ln_law_int (fun f cdv A outer s H E hr => dv_law_int C  f cdv A outer s H E hr) kp_law_int
theorem sc_law_good_week : FnScope ["value", "sign", "at"] ["value"] (defScope (top 34)) := ⟨rfl, rfl, rfl, by decide +kernel, rfl, by decide +kernel, by decide +kernel⟩
theorem dv_law_good_week {P : Program} {w : World} {K : PySem.W.Frag} {mg : Str → Option Value} {base : Heap} (C : Fc P w K mg base)  (f : Addr) (cdv : Value) (A : Around) (outer : List PySem.Env) (s : Shared) (H : Hp) (E : XK) (hr : Room 1 (A.deeper (envOfC "_law_good_week" (defScope (top 34)) s.heap.objs.size f cdv))) :
    DSs (cxOf (L2N.CX P w) P w K mg base ["value", "sign", "at"] "_law_good_week" (defScope (top 34)) f cdv A outer s H E) (WD E) (defBody (top 34)) t_law_good_week := by
  have nd := (sc_law_good_week).nd
  have tk : L2N.Takes (cxOf (L2N.CX P w) P w K mg base ["value", "sign", "at"] "_law_good_week" (defScope (top 34)) f cdv A outer s H E) (WD E) := L2N.takes_of rfl rfl rfl rfl
  have hp : PassesOwn (model P w) (A.deeper (envOfC "_law_good_week" (defScope (top 34)) s.heap.objs.size f cdv)) (cxOf (L2N.CX P w) P w K mg base ["value", "sign", "at"] "_law_good_week" (defScope (top 34)) f cdv A outer s H E).env (cxOf (L2N.CX P w) P w K mg base ["value", "sign", "at"] "_law_good_week" (defScope (top 34)) f cdv A outer s H E).xe := passes_of rfl
  exact ds_cons (ds_if ((dw_or (dt_not (dt_val (de_isi isty_str (by decide +kernel) (de_var 0) C.b_isinstance C.b_str))) (dw_or1 (dt_cmp (op_neD hr.u64) od_ne (de_lc rfl nd (di_str (de_var 0)) (blkOk_by (own := [("sign", 1)]) rfl) (by decide) (fun s H C0 cl fp => dg_name 1 nd) (fun s H C0 cl fp => dts_one (dt_cmp (or_notin hr.u65) od_notin (de_var 1) (de_str) (by rfl))) (fun s H C0 cl fp => de_var 1)) (de_lst (da_nil)) (by rfl)))).pt) (ds_one (ds_ret (de_bl))) (ds_nil)) (ds_one (ds_ret (de_cmp (op_eqD hr.u64) od_eq (de_lc rfl nd (di_rg2 C.b_range (de_int) (de_b call_len cd_len C.b_len (da_cons (de_var 0) (da_nil)))) (blkOk_by (own := [("at", 2)]) rfl) (by decide) (fun s H C0 cl fp => dg_name 2 nd) (fun s H C0 cl fp => dts_one (dt_cmp or_le od_le (de_ix hr.u1 (de_var 0) (de_var 2)) (de_ix hr.u1 (de_var 0) (de_bin op_sub od_sub (de_var 2) (de_int))) (by rfl))) (fun s H C0 cl fp => de_var 2)) (de_lst (da_nil)) (by rfl))))
theorem ln_law_good_week : ∀ ds M Q R, S_law_good_week ds M Q R → ds.length = 1 := by
  rintro ds M Q R ⟨_, _, _, rfl, _⟩
  rfl
theorem hs_law_good_week {P : Program} {w : World} {K : PySem.W.Frag} {mg : Str → Option Value} {base : Heap} (C : Fc P w K mg base)  : Has P w K mg base "_law_good_week" 2 ["value"] S_law_good_week :=
  has_of C.f_law_good_week sc_law_good_week C.g_law_good_week (fun F => FunD.bindsN F fun _ _ _ _ _ _ us hl => match us, hl with | [_], _ => rfl) ln_law_good_week (fun f cdv A outer s H E hr => dv_law_good_week C  f cdv A outer s H E hr) kp_law_good_week
theorem sc_law_good_house : FnScope ["value"] ["value"] (defScope (top 35)) := ⟨rfl, rfl, rfl, by decide +kernel, rfl, by decide +kernel, by decide +kernel⟩
theorem dv_law_good_house {P : Program} {w : World} {K : PySem.W.Frag} {mg : Str → Option Value} {base : Heap} (C : Fc P w K mg base) (h_law_int : Has P w K mg base "_law_int" 2 ["value", "low", "high"] S_law_int) (h_law_good_week : Has P w K mg base "_law_good_week" 2 ["value"] S_law_good_week) (f : Addr) (cdv : Value) (A : Around) (outer : List PySem.Env) (s : Shared) (H : Hp) (E : XK) (hr : Room 2 (A.deeper (envOfC "_law_good_house" (defScope (top 35)) s.heap.objs.size f cdv))) :
    DSs (cxOf (L2N.CX P w) P w K mg base ["value"] "_law_good_house" (defScope (top 35)) f cdv A outer s H E) (WD E) (defBody (top 35)) t_law_good_house := by
  have nd := (sc_law_good_house).nd
  have tk : L2N.Takes (cxOf (L2N.CX P w) P w K mg base ["value"] "_law_good_house" (defScope (top 35)) f cdv A outer s H E) (WD E) := L2N.takes_of rfl rfl rfl rfl
  have hp : PassesOwn (model P w) (A.deeper (envOfC "_law_good_house" (defScope (top 35)) s.heap.objs.size f cdv)) (cxOf (L2N.CX P w) P w K mg base ["value"] "_law_good_house" (defScope (top 35)) f cdv A outer s H E).env (cxOf (L2N.CX P w) P w K mg base ["value"] "_law_good_house" (defScope (top 35)) f cdv A outer s H E).xe := passes_of rfl
  exact ds_cons (ds_if ((dw_or (dt_not (dt_val (de_isi isty_tup (by decide +kernel) (de_var 0) C.b_isinstance C.b_tuple))) (dw_or (dt_cmp (op_neD hr.u64) od_ne (de_b call_len cd_len C.b_len (da_cons (de_var 0) (da_nil))) (de_int) (by rfl)) (dw_or1 (dt_not (dt_val (de_callH h_law_int hr (by decide) tk (da_cons (de_ix hr.u1 (de_var 0) (de_int)) (da_cons (de_int) (da_cons (de_int) (da_nil)))))))))).pt) (ds_one (ds_ret (de_bl))) (ds_nil)) (ds_cons (ds_if ((dw_or (dt_not (dt_val (de_callH h_law_good_week hr (by decide) tk (da_cons (de_ix hr.u1 (de_var 0) (de_int)) (da_nil))))) (dw_or1 (dt_not (dt_val (de_callH h_law_good_week hr (by decide) tk (da_cons (de_ix hr.u1 (de_var 0) (de_int)) (da_nil))))))).pt) (ds_one (ds_ret (de_bl))) (ds_nil)) (ds_one (ds_ret (de_chain or_le or_le od_le od_le (de_int) (de_b call_len cd_len C.b_len (da_cons (de_ix hr.u1 (de_var 0) (de_int)) (da_nil))) (de_bin or_mul od_mul (de_ix hr.u1 (de_var 0) (de_int)) (de_b call_len cd_len C.b_len (da_cons (de_ix hr.u1 (de_var 0) (de_int)) (da_nil))))))))
theorem ln_law_good_house : ∀ ds M Q R, S_law_good_house ds M Q R → ds.length = 1 := by
  rintro ds M Q R ⟨_, _, _, rfl, _⟩
  rfl
theorem hs_law_good_house {P : Program} {w : World} {K : PySem.W.Frag} {mg : Str → Option Value} {base : Heap} (C : Fc P w K mg base) (h_law_int : Has P w K mg base "_law_int" 2 ["value", "low", "high"] S_law_int) (h_law_good_week : Has P w K mg base "_law_good_week" 2 ["value"] S_law_good_week) : Has P w K mg base "_law_good_house" 3 ["value"] S_law_good_house :=
  has_of C.f_law_good_house sc_law_good_house C.g_law_good_house (fun F => FunD.bindsN F fun _ _ _ _ _ _ us hl => match us, hl with | [_], _ => rfl) ln_law_good_house (fun f cdv A outer s H E hr => dv_law_good_house C h_law_int h_law_good_week f cdv A outer s H E hr) kp_law_good_house
theorem sc_law_due : FnScope ["value", "at", "house"] ["value"] (defScope (top 41)) := ⟨rfl, rfl, rfl, by decide +kernel, rfl, by decide +kernel, by decide +kernel⟩
theorem dv_law_due {P : Program} {w : World} {K : PySem.W.Frag} {mg : Str → Option Value} {base : Heap} (C : Fc P w K mg base) (h_law_good_house : Has P w K mg base "_law_good_house" 3 ["value"] S_law_good_house) (f : Addr) (cdv : Value) (A : Around) (outer : List PySem.Env) (s : Shared) (H : Hp) (E : XK) (hr : Room 3 (A.deeper (envOfC "_law_due" (defScope (top 41)) s.heap.objs.size f cdv))) :
    DSs (cxOf (L2N.CX P w) P w K mg base ["value", "at", "house"] "_law_due" (defScope (top 41)) f cdv A outer s H E) (WD E) (defBody (top 41)) t_law_due := by
  have nd := (sc_law_due).nd
  have tk : L2N.Takes (cxOf (L2N.CX P w) P w K mg base ["value", "at", "house"] "_law_due" (defScope (top 41)) f cdv A outer s H E) (WD E) := L2N.takes_of rfl rfl rfl rfl
  have hp : PassesOwn (model P w) (A.deeper (envOfC "_law_due" (defScope (top 41)) s.heap.objs.size f cdv)) (cxOf (L2N.CX P w) P w K mg base ["value", "at", "house"] "_law_due" (defScope (top 41)) f cdv A outer s H E).env (cxOf (L2N.CX P w) P w K mg base ["value", "at", "house"] "_law_due" (defScope (top 41)) f cdv A outer s H E).xe := passes_of rfl
  exact ds_cons (ds_if ((dw_or (dt_not (dt_val (de_isi isty_str (by decide +kernel) (de_var 0) C.b_isinstance C.b_str))) (dw_or (dt_cmp or_lt od_lt (de_b call_len cd_len C.b_len (da_cons (de_var 0) (da_nil))) (de_int) (by rfl)) (dw_or1 (dt_cmp (op_neD hr.u64) od_ne (de_ix hr.u1 (de_var 0) (de_un un_neg ud_neg (de_int))) (de_str) (by rfl))))).pt) (ds_one (ds_ret (de_str))) (ds_nil)) (ds_cons (ds_if ((dw_or (dt_cmp (op_neD hr.u64) od_ne (de_count (de_var 0) (de_str)) (de_int) (by rfl)) (dw_or (dt_cmp (op_neD hr.u64) od_ne (de_count (de_var 0) (de_str)) (de_int) (by rfl)) (dw_or1 (dt_cmp (or_notin hr.u65) od_notin (de_ix hr.u1 (de_var 0) (de_un un_neg ud_neg (de_int))) (de_ty (call_listS rfl) cd_listS C.b_list (da_cons (de_str) da_nil)) (by rfl))))).pt) (ds_one (ds_ret (de_str))) (ds_nil)) (ds_cons (ds_set 1 nd (de_index (de_var 0) (de_str))) (ds_cons (ds_set 2 nd (de_tup (da_cons (de_sl (de_var 0) (do_none) (do_some (de_var 1))) (da_cons (de_sl (de_var 0) (do_some (de_bin or_add od_add (de_var 1) (de_int))) (do_some (de_un un_neg ud_neg (de_int)))) (da_cons (de_ty cr_int cd_int C.b_int (da_cons (de_ix hr.u1 (de_var 0) (de_un un_neg ud_neg (de_int))) (da_nil))) (da_nil)))))) (ds_one (ds_ret (de_ifE (dt_val (de_callH h_law_good_house hr (by decide) tk (da_cons (de_var 2) (da_nil)))) (de_var 2) (de_str)))))))
theorem ln_law_due : ∀ ds M Q R, S_law_due ds M Q R → ds.length = 1 := by
  rintro ds M Q R ⟨_, _, _, rfl, _⟩
  rfl
theorem hs_law_due {P : Program} {w : World} {K : PySem.W.Frag} {mg : Str → Option Value} {base : Heap} (C : Fc P w K mg base) (h_law_good_house : Has P w K mg base "_law_good_house" 3 ["value"] S_law_good_house) : Has P w K mg base "_law_due" 4 ["value"] S_law_due :=
  has_of C.f_law_due sc_law_due C.g_law_due (fun F => FunD.bindsN F fun _ _ _ _ _ _ us hl => match us, hl with | [_], _ => rfl) ln_law_due (fun f cdv A outer s H E hr => dv_law_due C h_law_good_house f cdv A outer s H E hr) kp_law_due
theorem sc_law_any_value : FnScope ["can", "deep", "some", "made", "part"] ["can", "deep"] (defScope (top 37)) := ⟨rfl, rfl, rfl, by decide +kernel, rfl, by decide +kernel, by decide +kernel⟩
theorem dv_law_any_value {P : Program} {w : World} {K : PySem.W.Frag} {mg : Str → Option Value} {base : Heap} (C : Fc P w K mg base) (h_law_lift : Has P w K mg base "_law_lift" 2 ["can", "wide"] S_law_lift) (h_law_pick : Has P w K mg base "_law_pick" 3 ["can", "things"] S_law_pick) (kr : Nat) (S_rec : DSp) (h_rec : Has P w K mg base "_law_any_value" kr ["can", "deep"] S_rec) (f : Addr) (cdv : Value) (A : Around) (outer : List PySem.Env) (s : Shared) (H : Hp) (E : XK) (hr : Room (kr + 3) (A.deeper (envOfC "_law_any_value" (defScope (top 37)) s.heap.objs.size f cdv))) :
    DSs (cxOf (L2N.CX P w) P w K mg base ["can", "deep", "some", "made", "part"] "_law_any_value" (defScope (top 37)) f cdv A outer s H E) (WD E) (defBody (top 37)) (t_law_any_value S_rec) := by
  have nd := (sc_law_any_value).nd
  have tk : L2N.Takes (cxOf (L2N.CX P w) P w K mg base ["can", "deep", "some", "made", "part"] "_law_any_value" (defScope (top 37)) f cdv A outer s H E) (WD E) := L2N.takes_of rfl rfl rfl rfl
  have hp : PassesOwn (model P w) (A.deeper (envOfC "_law_any_value" (defScope (top 37)) s.heap.objs.size f cdv)) (cxOf (L2N.CX P w) P w K mg base ["can", "deep", "some", "made", "part"] "_law_any_value" (defScope (top 37)) f cdv A outer s H E).env (cxOf (L2N.CX P w) P w K mg base ["can", "deep", "some", "made", "part"] "_law_any_value" (defScope (top 37)) f cdv A outer s H E).xe := passes_of rfl
  exact ds_cons (ds_set 2 nd (de_lst (da_cons (de_non) (da_cons (de_bl) (da_cons (de_bl) (da_cons (de_int) (da_cons (de_int) (da_cons (de_int) (da_cons (de_int) (da_cons (de_int) (da_cons (de_un un_neg ud_neg (de_int)) (da_cons (de_bin op_pow od_pow (de_int) (de_int)) (da_cons (de_bin or_add od_add (de_bin op_pow od_pow (de_int) (de_int)) (de_int)) (da_cons (de_str) (da_cons (de_str) (da_cons (de_str) (da_cons (de_str) (da_cons (de_str) (da_cons (de_str) (da_cons (de_tup (da_nil)) (da_nil))))))))))))))))))))) (ds_cons (ds_set 2 nd (de_bin or_add od_add (de_var 2) (de_lst (da_cons (de_tup (da_cons (de_str) (da_cons (de_str) (da_cons (de_int) (da_nil))))) (da_cons (de_tup (da_cons (de_str) (da_cons (de_str) (da_cons (de_int) (da_nil))))) (da_cons (de_tup (da_cons (de_int) (da_cons (de_int) (da_nil)))) (da_cons (de_tup (da_cons (de_int) (da_cons (de_int) (da_nil)))) (da_cons (de_lst (da_cons (de_int) (da_nil))) (da_cons (de_tup (da_cons (de_str) (da_cons (de_str) (da_cons (de_int) (da_nil))))) (da_cons (de_tup (da_cons (de_str) (da_cons (de_str) (da_cons (de_int) (da_nil))))) (da_cons (de_str) (da_nil)))))))))))) (ds_cons (ds_set 2 nd (de_bin or_add od_add (de_var 2) (de_lst (da_cons (de_lst (da_nil)) (da_cons (de_str) (da_nil)))))) (ds_cons (ds_if ((dw_or (dt_cmp (op_eqD hr.u64) od_eq (de_var 1) (de_int) (by rfl)) (dw_or1 (dt_cmp or_lt od_lt (de_callH h_law_lift hr (by omega) tk (da_cons (de_var 0) (da_cons (de_int) (da_nil)))) (de_int) (by rfl)))).pt) (ds_one (ds_ret (de_callH h_law_pick hr (by omega) tk (da_cons (de_var 0) (da_cons (de_var 2) (da_nil)))))) (ds_nil)) (ds_cons (ds_setLc 3 rfl nd (di_rg1 C.b_range (de_callH h_law_lift hr (by omega) tk (da_cons (de_var 0) (da_cons (de_int) (da_nil))))) (blkOk_by (own := [("part", 4)]) rfl) (by decide) (fun s H C0 cl fp => dg_name 4 nd) (fun s H C0 cl fp => dts_nil) (fun s H C0 cl fp => de_callH h_rec hr (by omega) takes0 (da_cons (de_var 0) (da_cons (de_bin op_sub od_sub (de_var 1) (de_int)) (da_nil)))) (by rfl)) (ds_one (ds_ret (de_ifE (dt_cmp (op_eqD hr.u64) od_eq (de_callH h_law_lift hr (by omega) tk (da_cons (de_var 0) (da_cons (de_int) (da_nil)))) (de_int) (by rfl)) (de_var 3) (de_ty call_tuple_of cd_tuple C.b_tuple (da_cons (de_var 3) (da_nil))))))))))
theorem hs_law_any_value {P : Program} {w : World} {K : PySem.W.Frag} {mg : Str → Option Value} {base : Heap} (C : Fc P w K mg base) (h_law_lift : Has P w K mg base "_law_lift" 2 ["can", "wide"] S_law_lift) (h_law_pick : Has P w K mg base "_law_pick" 3 ["can", "things"] S_law_pick) : Has P w K mg base "_law_any_value" 16 ["can", "deep"] S_law_any_value := by
  have key : ∀ d : Nat, Has P w K mg base "_law_any_value" (d * 4) ["can", "deep"] (Sr_law_any_value d) := by
    intro d
    induction d with
    | zero =>
      rw [Nat.zero_mul]
      exact has_void C.f_law_any_value C.g_law_any_value (fun F => FunD.bindsN F fun _ _ _ _ _ _ us hl => match us, hl with | [_, _], _ => rfl)
    | succ d ih =>
      have z := has_of (k := d * 4 + 3) C.f_law_any_value sc_law_any_value C.g_law_any_value (fun F => FunD.bindsN F fun _ _ _ _ _ _ us hl => match us, hl with | [_, _], _ => rfl) (lnr_law_any_value (d + 1)) (fun f cdv A outer s H E hr => dv_law_any_value C h_law_lift h_law_pick (d * 4) _ ih f cdv A outer s H E hr) (kpr_law_any_value d)
      rw [show d * 4 + 3 + 1 = (d + 1) * 4 from by omega] at z
      exact z
  exact key 4
theorem sc_law_word : FnScope ["call", "error"] ["call"] (defScope (top 40)) := ⟨rfl, rfl, rfl, by decide +kernel, rfl, by decide +kernel, by decide +kernel⟩
theorem hw_law_word {P : Program} {w : World} {K : PySem.W.Frag} {mg : Str → Option Value} {base : Heap} (C : Fc P w K mg base) (h_names : HasErr P w K mg base "_law_names" 1 word) : HasWord P w K mg base "_law_word" 1 word := by
  obtain ⟨fd, F⟩ := C.f_law_word
  exact ⟨⟨_, _, fd, _, _, _, _, _, _, _, _, _, _, _, _, _, F, sc_law_word, FunD.bindsN F fun _ _ _ _ _ _ us hl => match us, hl with | [_], _ => rfl, rfl, rfl, .inl rfl, .inl rfl, rfl⟩, C.g_law_word, F.kp, C.g_RoundError, h_names, wf_of C.er⟩
theorem sc_law : FnScope ["script", "k", "can", "house", "text", "spoilt", "turn", "odd", "rows", "value"] ["script"] (defScope (top 44)) := ⟨rfl, rfl, rfl, by decide +kernel, rfl, by decide +kernel, by decide +kernel⟩
theorem dv_law {P : Program} {w : World} {K : PySem.W.Frag} {mg : Str → Option Value} {base : Heap} (C : Fc P w K mg base) (h_law_can : Has P w K mg base "_law_can" 2 ["script", "k"] S_law_can) (h_law_any_house : Has P w K mg base "_law_any_house" 5 ["can"] S_law_any_house) (h_house_text : Has P w K mg base "house_text" 5 ["house"] S_house_text) (h_read_house : Has P w K mg base "read_house" 4 ["value"] S_read_house) (h_law_read : Has P w K mg base "_law_read" 5 ["value"] S_law_read) (h_law_spoilt : Has P w K mg base "_law_spoilt" 4 ["can", "text"] S_law_spoilt) (h_law_good_house : Has P w K mg base "_law_good_house" 3 ["value"] S_law_good_house) (h_law_due : Has P w K mg base "_law_due" 4 ["value"] S_law_due) (h_law_any_value : Has P w K mg base "_law_any_value" 16 ["can", "deep"] S_law_any_value) (h_word : HasWord P w K mg base "_law_word" 1 word) (TB : LamX.TabB base mg (He.cT K ("law", none)).1 (He.cT K ("law", none)).2) (f : Addr) (A : Around) (outer : List PySem.Env) (s : Shared) (H : Hp) (E : XK) (hr : Room 16 (A.deeper (envOfC "law" (defScope (top 44)) s.heap.objs.size f (.ref (He.cT K ("law", none)).1)))) :
    DSs (cxOf (L2N.CX P w) P w K mg base ["script", "k", "can", "house", "text", "spoilt", "turn", "odd", "rows", "value"] "law" (defScope (top 44)) f (.ref (He.cT K ("law", none)).1) A outer s H E) (WD E) (defBody (top 44)) t_law := by
  have nd := (sc_law).nd
  have tk : L2N.Takes (cxOf (L2N.CX P w) P w K mg base ["script", "k", "can", "house", "text", "spoilt", "turn", "odd", "rows", "value"] "law" (defScope (top 44)) f (.ref (He.cT K ("law", none)).1) A outer s H E) (WD E) := L2N.takes_of rfl rfl rfl rfl
  have hp : PassesOwn (model P w) (A.deeper (envOfC "law" (defScope (top 44)) s.heap.objs.size f (.ref (He.cT K ("law", none)).1))) (cxOf (L2N.CX P w) P w K mg base ["script", "k", "can", "house", "text", "spoilt", "turn", "odd", "rows", "value"] "law" (defScope (top 44)) f (.ref (He.cT K ("law", none)).1) A outer s H E).env (cxOf (L2N.CX P w) P w K mg base ["script", "k", "can", "house", "text", "spoilt", "turn", "odd", "rows", "value"] "law" (defScope (top 44)) f (.ref (He.cT K ("law", none)).1) A outer s H E).xe := passes_of rfl
  exact ds_cons (ds_for hp rfl (di_rg1 C.b_range (de_b (cr_maxU rfl) cd_max C.b_max (da_cons (de_int) (da_cons (de_b (cr_minU rfl) cd_min C.b_min (da_cons (de_int) (da_cons (de_b call_len cd_len C.b_len (da_cons (de_var 0) (da_nil))) (da_nil)))) (da_nil))))) (dg_name 1 nd) (ds_cons (ds_set 2 nd (de_callH h_law_can hr (by decide) tk (da_cons (de_var 0) (da_cons (de_var 1) (da_nil))))) (ds_cons (ds_set 3 nd (de_callH h_law_any_house hr (by decide) tk (da_cons (de_var 2) (da_nil)))) (ds_cons (ds_set 4 nd (de_bin or_add od_add (de_bin or_add od_add (de_bin or_add od_add (de_bin or_add od_add (de_ix hr.u1 (de_var 3) (de_int)) (de_str)) (de_ix hr.u1 (de_var 3) (de_int))) (de_str)) (de_ty cr_str cd_str C.b_str (da_cons (de_ix hr.u1 (de_var 3) (de_int)) (da_nil))))) (ds_cons (ds_if ((dw_or (dt_cmp (op_neD hr.u64) od_ne (de_callH h_house_text hr (by decide) tk (da_cons (de_var 3) (da_nil))) (de_var 4) (by rfl)) (dw_or1 (dt_cmp (op_neD hr.u64) od_ne (de_callH h_law_read hr (by decide) tk (da_cons (de_var 4) (da_nil))) (de_var 3) (by rfl)))).pt) (ds_one (ds_ret (de_bl))) (ds_nil)) (ds_cons (ds_set 5 nd (de_var 4)) (ds_cons (ds_for hp rfl (di_rg1 C.b_range (de_int)) (dg_name 6 nd) (ds_cons (ds_set 5 nd (de_callH h_law_spoilt hr (by decide) tk (da_cons (de_var 2) (da_cons (de_ifE (dt_cmp op_gt od_gt (de_bin op_mod od_mod (de_var 6) (de_int)) (de_int) (by rfl)) (de_var 5) (de_var 4)) (da_nil))))) (ds_one (ds_if (dt_cmp (op_neD hr.u64) od_ne (de_callH h_law_read hr (by decide) tk (da_cons (de_var 5) (da_nil))) (de_callH h_law_due hr (by decide) tk (da_cons (de_var 5) (da_nil))) (by rfl)) (ds_one (ds_ret (de_bl))) (ds_nil))))) (ds_cons (ds_set 7 nd (de_callH h_law_any_value hr (by decide) tk (da_cons (de_var 2) (da_cons (de_int) (da_nil))))) (ds_cons (ds_if (dt_cmp (op_neD hr.u64) od_ne (de_callH h_law_read hr (by decide) tk (da_cons (de_var 7) (da_nil))) (de_callH h_law_due hr (by decide) tk (da_cons (de_var 7) (da_nil))) (by rfl)) (ds_one (ds_ret (de_bl))) (ds_nil)) (ds_one (ds_if ((dw_and (dt_not (dt_val (de_callH h_law_good_house hr (by decide) tk (da_cons (de_var 7) (da_nil))))) (dw_and1 (dt_cmp (op_neD hr.u64) od_ne (de_lamwordK h_word 14 (by decide) TB (hr.mono (by decide)) (fun A outer s H E f c' hr => de_callH h_house_text hr (by decide) (L2N.takes_of (E := E) rfl rfl rfl rfl) (da_cons (de_var 7) (da_nil)))) (de_str) (by rfl)))).pt) (ds_one (ds_ret (de_bl))) (ds_nil)))))))))))) (ds_cons (ds_set 8 nd (de_new (da_cons (de_str) (da_cons (de_str) (da_cons (de_str) (da_cons (de_str) (da_cons (de_str) (da_cons (de_str) (da_cons (de_str) (da_cons (de_str) (da_cons (de_str) (da_cons (de_str) (da_cons (de_str) (da_nil)))))))))))))) (ds_cons (ds_set 8 nd (de_bin or_add od_catM (de_frz (de_var 8)) (de_lst (da_cons (de_str) (da_cons (de_str) (da_cons (de_str) (da_cons (de_str) (da_cons (de_str) (da_cons (de_str) (da_cons (de_str) (da_cons (de_str) (da_cons (de_str) (da_cons (de_str) (da_nil)))))))))))))) (ds_cons (ds_set 8 nd (de_bin or_add od_catM (de_frz (de_var 8)) (de_lst (da_cons (de_str) (da_cons (de_str) (da_cons (de_str) (da_cons (de_str) (da_cons (de_str) (da_cons (de_str) (da_cons (de_str) (da_nil))))))))))) (ds_cons (ds_expr (de_app (de_var 8) (de_str))) (ds_cons (ds_if (dt_cmp (op_neD hr.u64) od_ne (de_lc rfl nd (di_lst (de_frz (de_var 8))) (blkOk_by (own := [("value", 9)]) rfl) (by decide) (fun s H C0 cl fp => dg_name 9 nd) (fun s H C0 cl fp => dts_one (dt_cmp (op_neD hr.u64) od_ne (de_callH h_law_read hr (by decide) takes0 (da_cons (de_var 9) (da_nil))) (de_callH h_law_due hr (by decide) takes0 (da_cons (de_var 9) (da_nil))) (by rfl))) (fun s H C0 cl fp => de_var 9)) (de_lst (da_nil)) (by rfl)) (ds_one (ds_ret (de_bl))) (ds_nil)) (ds_one (ds_ret (de_and (de_cmp (op_eqD hr.u64) od_eq (de_callH h_read_house hr (by decide) tk (da_cons (de_str) (da_nil))) (de_tup (da_cons (de_str) (da_cons (de_str) (da_cons (de_int) (da_nil))))) (by rfl)) (de_and1 (de_cmp (op_eqD hr.u64) od_eq (de_callH h_house_text hr (by decide) tk (da_cons (de_tup (da_cons (de_str) (da_cons (de_str) (da_cons (de_int) (da_nil))))) (da_nil))) (de_str) (by rfl)))))))))))
theorem ln_law : ∀ ds M Q R, S_law ds M Q R → ds.length = 1 := by
  rintro ds M Q R ⟨_, rfl, _⟩
  rfl
theorem fn_law {P : Program} {w : World} {K : PySem.W.Frag} {mg : Str → Option Value} {base : Heap} (C : Fc P w K mg base) (tb_law : LamX.TabB base mg (He.cT K ("law", none)).1 (He.cT K ("law", none)).2) {fd : FuncData} (F : FunD K "law" "law" (defArgs (top 44)) (defBody (top 44)) (defScope (top 44)) [] [] (He.ga K "law") fd) : FnD P w K mg base 17 (He.ga K "law") fd ["script"] S_law := by
  have h_names := hn_law_names C
  have h_word := hw_law_word C h_names
  have h_law_can := hs_law_can C 
  have h_law_lift := hs_law_lift C 
  have h_law_pick := hs_law_pick C h_law_lift
  have h_law_some := hs_law_some C h_law_lift h_law_pick
  have h_law_any_house := hs_law_any_house C h_law_lift h_law_pick h_law_some
  have h_is_integer := hs_is_integer C 
  have h_are_weekdays := hs_are_weekdays C 
  have h_is_house := hs_is_house C h_is_integer h_are_weekdays
  have h_need_house := hs_need_house C h_is_house
  have h_text_of := hs_text_of C 
  have h_house_text := hs_house_text C h_need_house h_text_of
  have h_house_in := hs_house_in C 
  have h_read_house := hs_read_house C h_is_house h_house_in
  have h_law_read := hs_law_read C h_read_house h_names
  have h_law_spoilt := hs_law_spoilt C h_law_lift h_law_pick
  have h_law_int := hs_law_int C 
  have h_law_good_week := hs_law_good_week C 
  have h_law_good_house := hs_law_good_house C h_law_int h_law_good_week
  have h_law_due := hs_law_due C h_law_good_house
  have h_law_any_value := hs_law_any_value C h_law_lift h_law_pick
  exact fnDC F sc_law ln_law (fun f A outer s H E hr => dv_law C h_law_can h_law_any_house h_house_text h_read_house h_law_read h_law_spoilt h_law_good_house h_law_due h_law_any_value h_word tb_law f A outer s H E hr) kp_law
end Dl
namespace Dl
open PySem PySem.Spec PyProof.Rows L2
def df_law_can : He.DefD := ⟨("_law_can", none), "_law_can", "_law_can", defArgs (top 27), defBody (top 27), defScope (top 27), [], []⟩
def df_law_lift : He.DefD := ⟨("_law_lift", none), "_law_lift", "_law_lift", defArgs (top 28), defBody (top 28), defScope (top 28), [], []⟩
def df_law_pick : He.DefD := ⟨("_law_pick", none), "_law_pick", "_law_pick", defArgs (top 29), defBody (top 29), defScope (top 29), [], []⟩
def df_law_some : He.DefD := ⟨("_law_some", none), "_law_some", "_law_some", defArgs (top 30), defBody (top 30), defScope (top 30), [], []⟩
def df_law_any_house : He.DefD := ⟨("_law_any_house", none), "_law_any_house", "_law_any_house", defArgs (top 31), defBody (top 31), defScope (top 31), [], []⟩
def df_is_integer : He.DefD := ⟨("is_integer", none), "is_integer", "is_integer", defArgs (top 17), defBody (top 17), defScope (top 17), [], []⟩
def df_are_weekdays : He.DefD := ⟨("are_weekdays", none), "are_weekdays", "are_weekdays", defArgs (top 18), defBody (top 18), defScope (top 18), [], []⟩
def df_is_house : He.DefD := ⟨("is_house", none), "is_house", "is_house", defArgs (top 19), defBody (top 19), defScope (top 19), [], []⟩
def df_need_house : He.DefD := ⟨("need_house", none), "need_house", "need_house", defArgs (top 20), defBody (top 20), defScope (top 20), [], []⟩
def df_text_of : He.DefD := ⟨("text_of", none), "text_of", "text_of", defArgs (top 22), defBody (top 22), defScope (top 22), [], []⟩
def df_house_text : He.DefD := ⟨("house_text", none), "house_text", "house_text", defArgs (top 23), defBody (top 23), defScope (top 23), [], []⟩
def df_house_in : He.DefD := ⟨("house_in", none), "house_in", "house_in", defArgs (top 24), defBody (top 24), defScope (top 24), [], []⟩
def df_read_house : He.DefD := ⟨("read_house", none), "read_house", "read_house", defArgs (top 25), defBody (top 25), defScope (top 25), [], []⟩
def df_law_names : He.DefD := ⟨("_law_names", none), "_law_names", "_law_names", defArgs (top 39), defBody (top 39), defScope (top 39), [], []⟩
def df_law_read : He.DefD := ⟨("_law_read", none), "_law_read", "_law_read", defArgs (top 43), defBody (top 43), defScope (top 43), [], []⟩
def df_law_spoilt : He.DefD := ⟨("_law_spoilt", none), "_law_spoilt", "_law_spoilt", defArgs (top 42), defBody (top 42), defScope (top 42), [], []⟩
def df_law_int : He.DefD := ⟨("_law_int", none), "_law_int", "_law_int", defArgs (top 33), defBody (top 33), defScope (top 33), [], []⟩
def df_law_good_week : He.DefD := ⟨("_law_good_week", none), "_law_good_week", "_law_good_week", defArgs (top 34), defBody (top 34), defScope (top 34), [], []⟩
def df_law_good_house : He.DefD := ⟨("_law_good_house", none), "_law_good_house", "_law_good_house", defArgs (top 35), defBody (top 35), defScope (top 35), [], []⟩
def df_law_due : He.DefD := ⟨("_law_due", none), "_law_due", "_law_due", defArgs (top 41), defBody (top 41), defScope (top 41), [], []⟩
def df_law_any_value : He.DefD := ⟨("_law_any_value", none), "_law_any_value", "_law_any_value", defArgs (top 37), defBody (top 37), defScope (top 37), [], []⟩
def df_law_word : He.DefD := ⟨("_law_word", none), "_law_word", "_law_word", defArgs (top 40), defBody (top 40), defScope (top 40), [], []⟩
def df_law : He.DefD := ⟨("law", none), "law", "law", defArgs (top 44), defBody (top 44), defScope (top 44), [], []⟩
def fn : List He.DefD := [df_law_can, df_law_lift, df_law_pick, df_law_some, df_law_any_house, df_is_integer, df_are_weekdays, df_is_house, df_need_house, df_text_of, df_house_text, df_house_in, df_read_house, df_law_names, df_law_read, df_law_spoilt, df_law_int, df_law_good_week, df_law_good_house, df_law_due, df_law_any_value, df_law_word, df_law]
def fa : List He.Fa := [.free "ValueError",
  .free "len",
  .free "isinstance",
  .free "int",
  .free "str",
  .free "tuple",
  .free "bool",
  .free "list",
  .free "all",
  .free "any",
  .free "range",
  .free "min",
  .free "max",
  .free "zip",
  .free "enumerate",
  .free "sorted",
  .free "set",
  .free "abs",
  .free "sum",
  .str "FIGURES" ("0123456" : Str),
  .int "MOST_SPEED" 3,
  .glo "RoundError",
  .exc "RoundError",
  .glo "InvalidHouse",
  .exc "InvalidHouse",
  .glo "InvalidCalendar",
  .exc "InvalidCalendar",
  .glo "InvalidDay",
  .exc "InvalidDay",
  .glo "InvalidNumber",
  .exc "InvalidNumber",
  .glo "InvalidWeekdays",
  .exc "InvalidWeekdays",
  .glo "InvalidSeen",
  .exc "InvalidSeen",
  .glo "InvalidSign",
  .exc "InvalidSign",
  .glo "InvalidText",
  .exc "InvalidText",
  .glo "Unlike",
  .exc "Unlike",
  .glo "NothingToUndo",
  .exc "NothingToUndo",
  .glo "TooMany",
  .glo "Failed",
  .glo "_law_can",
  .glo "_law_lift",
  .glo "_law_pick",
  .glo "_law_some",
  .glo "_law_any_house",
  .glo "is_integer",
  .glo "are_weekdays",
  .glo "is_house",
  .glo "need_house",
  .glo "text_of",
  .glo "house_text",
  .glo "house_in",
  .glo "read_house",
  .glo "_law_names",
  .glo "_law_read",
  .glo "_law_spoilt",
  .glo "_law_int",
  .glo "_law_good_week",
  .glo "_law_good_house",
  .glo "_law_due",
  .glo "_law_any_value",
  .glo "_law_word",
  .glo "law"]
def nm0 : List Str := ["__name__", "RoundError", "InvalidHouse", "InvalidCalendar", "InvalidDay", "InvalidNumber", "InvalidWeekdays", "InvalidSeen", "InvalidSign", "InvalidText", "Unlike", "NothingToUndo", "TooMany", "Failed", "FIGURES", "MOST_SPEED", "is_integer", "are_weekdays", "is_house", "need_house", "text_of", "house_text", "house_in", "read_house", "_law_can", "_law_lift", "_law_pick", "_law_some", "_law_any_house", "_law_any_calendar"]
def nm1 : List Str := ["_law_int", "_law_good_week", "_law_good_house", "_law_good_calendar", "_law_any_value", "_law_bent", "_law_names", "_law_word", "_law_due", "_law_spoilt", "_law_read"]
def loose : List Str := nm0 ++ nm1
abbrev RO : PySem.W.OpenRow := PySem.W.OpenLaw.row PySem.Challenge.rw_pushedrounds_k06_texts_of_houses
def tf : List He.Defn := [("law", none)]
def exK (K : PySem.W.Frag) : Bool := errB K && decide (tf.map fun p => (He.cT K p).2).Nodup
abbrev hk : PySem.W.Hook := He.hookX 5 fa fn [] tf exK
def ob (s : PySem.W.SharedT) : He.AlX := He.obsX 5 fa fn [] tf exK (HandSHeadRun.getT s)
theorem ob_eq (s : PySem.W.SharedT) : ob s = hk.obs s.abs := He.obsX_eq (HandSHeadRun.getT_eq s)
set_option maxHeartbeats 0 in
theorem run (w : World) : HandSHeadRun.RunEq RO (PySem.W.view RO.prog [44]) hk ob 6000 loose w := by
  intro os
  kernel_rfl
end Dl
namespace Dl
open PySem PySem.Spec PyProof.Rows L2
theorem fc_of {P : Program} {w : World} {K : PySem.W.Frag} {h : Heap} {mg : Str → Option Value} {base : Heap} (KX : K.In h) (G : h.Ns mainGlobals mg) (c : He.SaysD fa fn K) (er : errB K = true) : Fc P w K mg base where
  b_ValueError := He.free_ok KX G (c.fact 0 (f := .free "ValueError") rfl)
  b_len := He.free_ok KX G (c.fact 1 (f := .free "len") rfl)
  b_isinstance := He.free_ok KX G (c.fact 2 (f := .free "isinstance") rfl)
  b_int := He.free_ok KX G (c.fact 3 (f := .free "int") rfl)
  b_str := He.free_ok KX G (c.fact 4 (f := .free "str") rfl)
  b_tuple := He.free_ok KX G (c.fact 5 (f := .free "tuple") rfl)
  b_bool := He.free_ok KX G (c.fact 6 (f := .free "bool") rfl)
  b_list := He.free_ok KX G (c.fact 7 (f := .free "list") rfl)
  b_all := He.free_ok KX G (c.fact 8 (f := .free "all") rfl)
  b_any := He.free_ok KX G (c.fact 9 (f := .free "any") rfl)
  b_range := He.free_ok KX G (c.fact 10 (f := .free "range") rfl)
  b_min := He.free_ok KX G (c.fact 11 (f := .free "min") rfl)
  b_max := He.free_ok KX G (c.fact 12 (f := .free "max") rfl)
  b_zip := He.free_ok KX G (c.fact 13 (f := .free "zip") rfl)
  b_enumerate := He.free_ok KX G (c.fact 14 (f := .free "enumerate") rfl)
  b_sorted := He.free_ok KX G (c.fact 15 (f := .free "sorted") rfl)
  b_set := He.free_ok KX G (c.fact 16 (f := .free "set") rfl)
  b_abs := He.free_ok KX G (c.fact 17 (f := .free "abs") rfl)
  b_sum := He.free_ok KX G (c.fact 18 (f := .free "sum") rfl)
  c_FIGURES := He.str_ok KX G (c.fact 19 (f := .str "FIGURES" ("0123456" : Str)) rfl)
  c_MOST_SPEED := He.int_ok KX G (c.fact 20 (f := .int "MOST_SPEED" 3) rfl)
  g_RoundError := He.glo_ok KX G (c.fact 21 (f := .glo "RoundError") rfl)
  x_RoundError := c.fact 22 (f := .exc "RoundError") rfl
  g_InvalidHouse := He.glo_ok KX G (c.fact 23 (f := .glo "InvalidHouse") rfl)
  x_InvalidHouse := c.fact 24 (f := .exc "InvalidHouse") rfl
  g_InvalidCalendar := He.glo_ok KX G (c.fact 25 (f := .glo "InvalidCalendar") rfl)
  x_InvalidCalendar := c.fact 26 (f := .exc "InvalidCalendar") rfl
  g_InvalidDay := He.glo_ok KX G (c.fact 27 (f := .glo "InvalidDay") rfl)
  x_InvalidDay := c.fact 28 (f := .exc "InvalidDay") rfl
  g_InvalidNumber := He.glo_ok KX G (c.fact 29 (f := .glo "InvalidNumber") rfl)
  x_InvalidNumber := c.fact 30 (f := .exc "InvalidNumber") rfl
  g_InvalidWeekdays := He.glo_ok KX G (c.fact 31 (f := .glo "InvalidWeekdays") rfl)
  x_InvalidWeekdays := c.fact 32 (f := .exc "InvalidWeekdays") rfl
  g_InvalidSeen := He.glo_ok KX G (c.fact 33 (f := .glo "InvalidSeen") rfl)
  x_InvalidSeen := c.fact 34 (f := .exc "InvalidSeen") rfl
  g_InvalidSign := He.glo_ok KX G (c.fact 35 (f := .glo "InvalidSign") rfl)
  x_InvalidSign := c.fact 36 (f := .exc "InvalidSign") rfl
  g_InvalidText := He.glo_ok KX G (c.fact 37 (f := .glo "InvalidText") rfl)
  x_InvalidText := c.fact 38 (f := .exc "InvalidText") rfl
  g_Unlike := He.glo_ok KX G (c.fact 39 (f := .glo "Unlike") rfl)
  x_Unlike := c.fact 40 (f := .exc "Unlike") rfl
  g_NothingToUndo := He.glo_ok KX G (c.fact 41 (f := .glo "NothingToUndo") rfl)
  x_NothingToUndo := c.fact 42 (f := .exc "NothingToUndo") rfl
  g_TooMany := He.glo_ok KX G (c.fact 43 (f := .glo "TooMany") rfl)
  g_Failed := He.glo_ok KX G (c.fact 44 (f := .glo "Failed") rfl)
  er := errF_of er
  g_law_can := He.glo_ok KX G (c.fact 45 (f := .glo "_law_can") rfl)
  f_law_can := c.def_ 0 (d := df_law_can) rfl
  g_law_lift := He.glo_ok KX G (c.fact 46 (f := .glo "_law_lift") rfl)
  f_law_lift := c.def_ 1 (d := df_law_lift) rfl
  g_law_pick := He.glo_ok KX G (c.fact 47 (f := .glo "_law_pick") rfl)
  f_law_pick := c.def_ 2 (d := df_law_pick) rfl
  g_law_some := He.glo_ok KX G (c.fact 48 (f := .glo "_law_some") rfl)
  f_law_some := c.def_ 3 (d := df_law_some) rfl
  g_law_any_house := He.glo_ok KX G (c.fact 49 (f := .glo "_law_any_house") rfl)
  f_law_any_house := c.def_ 4 (d := df_law_any_house) rfl
  g_is_integer := He.glo_ok KX G (c.fact 50 (f := .glo "is_integer") rfl)
  f_is_integer := c.def_ 5 (d := df_is_integer) rfl
  g_are_weekdays := He.glo_ok KX G (c.fact 51 (f := .glo "are_weekdays") rfl)
  f_are_weekdays := c.def_ 6 (d := df_are_weekdays) rfl
  g_is_house := He.glo_ok KX G (c.fact 52 (f := .glo "is_house") rfl)
  f_is_house := c.def_ 7 (d := df_is_house) rfl
  g_need_house := He.glo_ok KX G (c.fact 53 (f := .glo "need_house") rfl)
  f_need_house := c.def_ 8 (d := df_need_house) rfl
  g_text_of := He.glo_ok KX G (c.fact 54 (f := .glo "text_of") rfl)
  f_text_of := c.def_ 9 (d := df_text_of) rfl
  g_house_text := He.glo_ok KX G (c.fact 55 (f := .glo "house_text") rfl)
  f_house_text := c.def_ 10 (d := df_house_text) rfl
  g_house_in := He.glo_ok KX G (c.fact 56 (f := .glo "house_in") rfl)
  f_house_in := c.def_ 11 (d := df_house_in) rfl
  g_read_house := He.glo_ok KX G (c.fact 57 (f := .glo "read_house") rfl)
  f_read_house := c.def_ 12 (d := df_read_house) rfl
  g_law_names := He.glo_ok KX G (c.fact 58 (f := .glo "_law_names") rfl)
  f_law_names := c.def_ 13 (d := df_law_names) rfl
  g_law_read := He.glo_ok KX G (c.fact 59 (f := .glo "_law_read") rfl)
  f_law_read := c.def_ 14 (d := df_law_read) rfl
  g_law_spoilt := He.glo_ok KX G (c.fact 60 (f := .glo "_law_spoilt") rfl)
  f_law_spoilt := c.def_ 15 (d := df_law_spoilt) rfl
  g_law_int := He.glo_ok KX G (c.fact 61 (f := .glo "_law_int") rfl)
  f_law_int := c.def_ 16 (d := df_law_int) rfl
  g_law_good_week := He.glo_ok KX G (c.fact 62 (f := .glo "_law_good_week") rfl)
  f_law_good_week := c.def_ 17 (d := df_law_good_week) rfl
  g_law_good_house := He.glo_ok KX G (c.fact 63 (f := .glo "_law_good_house") rfl)
  f_law_good_house := c.def_ 18 (d := df_law_good_house) rfl
  g_law_due := He.glo_ok KX G (c.fact 64 (f := .glo "_law_due") rfl)
  f_law_due := c.def_ 19 (d := df_law_due) rfl
  g_law_any_value := He.glo_ok KX G (c.fact 65 (f := .glo "_law_any_value") rfl)
  f_law_any_value := c.def_ 20 (d := df_law_any_value) rfl
  g_law_word := He.glo_ok KX G (c.fact 66 (f := .glo "_law_word") rfl)
  f_law_word := c.def_ 21 (d := df_law_word) rfl
  g_law := He.glo_ok KX G (c.fact 67 (f := .glo "law") rfl)
  f_law := c.def_ 22 (d := df_law) rfl
theorem tf_none : ∀ n ∈ tf, n.2 = none := by decide
def mem0 (K : PySem.W.Frag) : Mem := tf.map fun n => ((He.cT K n).2, MO.tab n.1)
theorem tabs0 {K : PySem.W.Frag} (nd : (tf.map fun p => (He.cT K p).2).Nodup) : Tbs tbn (mem0 K) := fun n hn => by
  obtain ⟨d, hd, e⟩ := List.mem_map.mp (show n ∈ tf.map (·.1) from hn)
  refine ⟨(He.cT K d).2, mget_of (by unfold keys mem0; rw [List.map_map]; exact nd) ?_⟩
  rw [← e]
  exact List.mem_map.mpr ⟨d, hd, rfl⟩
theorem law_at (w : World) (mg : Str → Option Value) (fa0 : Addr) (h : Heap) (Y : hk.says w h) (G : h.Ns mainGlobals mg) (hmg : mg "law" = some (.ref fa0)) :
    ∃ K : PySem.W.Frag, K.In h ∧ LamX.LawAtS PySem.Challenge.rw_pushedrounds_k06_texts_of_houses w K (L2N.CX (PySem.Challenge.rw_pushedrounds_k06_texts_of_houses).prog w) 17 63 "script" mg fa0 h := by
  obtain ⟨K, KX, c⟩ := Y
  have cm : errB K = true ∧ (tf.map fun p => (He.cT K p).2).Nodup := by
    obtain ⟨z1, z2⟩ := He.ba (show (errB K && decide (tf.map fun p => (He.cT K p).2).Nodup) = true from c.more)
    exact ⟨z1, of_decide_eq_true z2⟩
  have C : ∀ base, Fc (PySem.Challenge.rw_pushedrounds_k06_texts_of_houses).prog w K mg base := fun base => fc_of KX G c.t.d cm.1
  have e := hmg.symm.trans (C h).g_law
  cases e
  obtain ⟨fd, F⟩ := (C h).f_law
  have b := FunD.bindsA (ps := ["script"]) F fun _ _ _ _ _ _ us hl => match us, hl with | [_], _ => rfl
  refine ⟨K, KX, fd, tf.map (He.cT K), spOf K S_law, fun p hp => ?_, fun p hp => ?_, fun p hp => ?_, fun s v => b s [v] rfl, fun H a ns _ _ hT hS => ?_, fun base _ _ hB => fn_law (C base) (hB _ (List.mem_map.mpr ⟨("law", none), by decide, rfl⟩)) F⟩
  · obtain ⟨n, hn, e⟩ := List.mem_map.mp hp
    rw [← e]; exact c.empty n hn
  · obtain ⟨n, hn, e⟩ := List.mem_map.mp hp
    rw [← e]; exact c.out n hn
  · obtain ⟨n, hn, e⟩ := List.mem_map.mp hp
    rw [← e]; exact PySem.W.codeHd_of_K KX (c.hd n hn)
  · refine ⟨ntz H, mem0 K, [.scr ns], fun d _ => d = .bl true, fun _ _ => False, ⟨ntz_sub H, fun p o hpo => ?_, ?_, ntz_nz H⟩, .cons (.scr (ntz_l hS)) .nil, ⟨ns, rfl, tabs0 cm.2, rfl⟩, fun Z' H' M' v d _ _ r q => (by subst q; cases r; rfl), fun _ _ _ _ _ _ _ _ _ q => q.elim⟩
    · obtain ⟨n, hn, e⟩ := List.mem_map.mp hpo
      cases e
      have ht := hT (He.cT K n) (List.mem_map.mpr ⟨n, hn, rfl⟩)
      have hn2 : n.2 = none := tf_none n hn
      have en : n = (n.1, none) := by rw [← hn2]
      exact ⟨ntz_tbl ht, by rw [← en], LamX.TabS.nil ht⟩
    · show ((mem0 K).map (·.1)).Nodup
      unfold mem0
      rw [List.map_map]
      exact cm.2
end Dl
open PySem PySem.W PySem.Calls PyProof.Rows
theorem PySem.Challenge.cw_pushedrounds_k06_texts_of_houses_holds : PySem.Challenge.rw_pushedrounds_k06_texts_of_houses.Holds := by
  w_on; o_law
  refine HandSHeadRun.head_any (r := OpenLaw.row PySem.Challenge.rw_pushedrounds_k06_texts_of_houses) (q := view (OpenLaw.row PySem.Challenge.rw_pushedrounds_k06_texts_of_houses).prog [44]) (H := Dl.hk) (ob := Dl.ob) (M := 6000) (loose := Dl.loose) (d := HandSHeadRun.topDef (OpenLaw.row PySem.Challenge.rw_pushedrounds_k06_texts_of_houses).prog 44) (kwd := []) Dl.ob_eq
    (by kernel_rfl) (fun s => by kernel_rfl) Dl.run (by kernel_rfl) (by kernel_rfl) (by kernel_rfl) (by rfl) (by first | assumption | decide +kernel) (by decide +kernel) ⟨rfl, rfl, rfl, rfl, rfl, by decide +kernel⟩ ?hw ?hc
  case hw => w_witness2
  case hc =>
    refine LamX.walk_ofTsE (l := PySem.Challenge.rw_pushedrounds_k06_texts_of_houses) (n := 63) (k := 17) (x := "script") (CX := fun w => L2N.CX (PySem.Challenge.rw_pushedrounds_k06_texts_of_houses).prog w) rfl (by decide) (by kernel_rfl) ⟨rfl, by decide, by decide⟩ ?F (fun _ _ _ _ _ z => by obtain ⟨_, _, _, _, _, z⟩ := z; exact z.2.2.2.2.2.2.2)
    intro w mg fa0 h Y G hmg0
    have hmg : mg ("law" : PySem.Str) = some (.ref fa0) := by
      have e : (HandSHeadRun.topDef (OpenLaw.row PySem.Challenge.rw_pushedrounds_k06_texts_of_houses).prog 44).name = ("law" : PySem.Str) := by kernel_rfl
      rw [← e]
      exact hmg0
    exact Dl.law_at w mg fa0 h Y G hmg
