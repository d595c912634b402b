import PyProof.Rows.All
import Wide.All
import OpenK.AllK
import Wide.FinOn
import KE.KStateDown
import HandS.ForMost
import HandS.Exc
import HandS.TryOnly
import HandS.ExcOwn
import HandS.WordsExc
import HandS.Defaults
import HandS.Lambda
import HandS.EndTab
import HandS.HeadWalk
import HandS.Head2
import HandS.HeadHook4
import HandS.Style
import HandS.TupAny
import HandS.Wide
import HandS.WideMore
import HandS.IsInst
import HandS.SetFor
import HandS.Deep
import KE.SortData
import HandS.SortInts
import HandS.RaiseMore
import HandS.Conv
import HandS.FStr
import PyProof.LongRange
import KE.GoesNew
import KE.GoesMore
import KE.GoesZip
import HandS.Iter
import HandS.Zip
import KE.KDictSum
import PyProof.ListRange
import HandS.DictTup
import HandS.TupSets
import KE.KDictDisplayH
import KE.KDictZip
import PySem.Challenge.RW_pushedrounds_k13_known_houses_by_hand
set_option Elab.async false
set_option linter.all false
set_option maxRecDepth 100000
set_option maxHeartbeats 4000000
/-! # The layer of data: what a program does, told over plain data (no heap), one transformer a construct. -/
namespace Dl
open PySem L2

/-! ### data, what changes, the transformers' types -/
/-- a value with all that it holds; scr: the script; fn n: the module's n; obj a: an object by its place alone -/
inductive D where
  | non | bl (b : Bool) | int (i : Int) | str (x : Str) | tup (ds : List D) | lst (ds : List D) | scr (ns : List Int) | fn (n : Str) | obj (a : Nat)
/-- what may still change: a list, a list of two ints that draws are made from, dicts, an instance -/
inductive MO where
  | lst (ds : List D) | can | dK (kvs : List (Key × D)) | dT (kvs : List (List Key × D)) | ins (c : Str) (fs : List (Str × D))
/-- an exception: its class, its field -/
inductive Exn where
  | mk (c : Str) (f : Option (Str × D))
abbrev Env := List (Option D)
abbrev Mem := List (Nat × MO)
abbrev DQ := D → Mem → Prop
abbrev DR := Exn → Env → Mem → Prop
/-- an expression's transformer | a test's | an argument list's -/
abbrev DX (α : Type) := Env → Mem → (α → Mem → Prop) → DR → Prop
abbrev DTE := DX D
abbrev DTT := DX Bool
abbrev DTA := DX (List D)
structure DEnds where
  nx : Env → Mem → Prop
  rt : DQ
  bk : Env → Mem → Prop := fun _ _ => False
  ct : Env → Mem → Prop := fun _ _ => False
abbrev DTS := DEnds → Env → Mem → DR → Prop
/-- what a def is worth -/
abbrev DSp := List D → Mem → DQ → (Exn → Mem → Prop) → Prop
/-- a target -/
abbrev DTG := D → Env → Mem → (Env → Mem → Prop) → Prop

def nth : Env → Nat → Option D
  | [], _ => none
  | d :: _, 0 => d
  | _ :: r, n + 1 => nth r n
def put : Env → Nat → D → Env
  | [], _, _ => []
  | _ :: r, 0, v => some v :: r
  | d :: r, n + 1, v => d :: put r n v
def del : Env → Nat → Env
  | [], _ => []
  | _ :: r, 0 => none :: r
  | d :: r, n + 1 => d :: del r n
def dels (ρ : Env) : List Nat → Env
  | [] => ρ
  | v :: vs => del (dels ρ vs) v
theorem nth_eq : ∀ (ρ : Env) (i : Nat) (d : D), nth ρ i = some d ↔ ρ[i]? = some (some d)
  | [], i, d => by simp [nth]
  | x :: r, 0, d => by simp [nth]
  | x :: r, n + 1, d => by simpa [nth] using nth_eq r n d
theorem put_eq : ∀ (ρ : Env) (i : Nat) (d : D), put ρ i d = ρ.set i (some d)
  | [], i, d => by simp [put]
  | x :: r, 0, d => by simp [put]
  | x :: r, n + 1, d => by simp [put, put_eq r n d]
theorem del_eq : ∀ (ρ : Env) (i : Nat), del ρ i = ρ.set i none
  | [], i => by simp [del]
  | x :: r, 0 => by simp [del]
  | x :: r, n + 1 => by simp [del, del_eq r n]

/-! ### how data lie in the abstract heap -/
variable {K : PySem.W.Frag}
def Ex (H H' : Hp) : Prop := ∀ a o, H a = some o → H' a = some o
theorem Ex.refl (H : Hp) : Ex H H := fun _ _ h => h
theorem Ex.trans {H H1 H2 : Hp} (a : Ex H H1) (b : Ex H1 H2) : Ex H H2 := fun x o h => b x o (a x o h)
theorem Ex.new {H : Hp} {p : Addr} {o : HO} (h : H p = none) : Ex H (upd H p o) := fun a u e => by
  rw [upd_ne (ne_of_none e h)]
  exact e
theorem Ex.rd {H H' : Hp} {a : Addr} {u : HO} (e : Ex H H') (h : Rd H a u) : Rd H' a u := by
  rcases h with h | ⟨o, h⟩
  · exact Or.inl (e a _ h)
  · exact Or.inr ⟨o, e a _ h⟩
theorem Ex.l {H H' : Hp} {a : Addr} {xs : List V} (e : Ex H H') (h : SqL K H a xs) : SqL K H' a xs := h.elim (fun h => Or.inl (e.rd h)) Or.inr
theorem Ex.t {H H' : Hp} {a : Addr} {xs : List V} (e : Ex H H') (h : SqT K H a xs) : SqT K H' a xs := h.elim (fun h => Or.inl (e.rd h)) Or.inr
theorem Ex.free {H H' : Hp} {p : Addr} (e : Ex H H') (h : H' p = none) : H p = none := by
  cases h1 : H p with
  | none => rfl
  | some o => rw [e p o h1] at h; cases h

mutual
inductive Rep (K : PySem.W.Frag) (Z : Hp) : V → D → Prop
  | non : Rep K Z .non .non
  | bl (b : Bool) : Rep K Z (.bl b) (.bl b)
  | int (i : Int) : Rep K Z (.int i) (.int i)
  | str (x : Str) : Rep K Z (.str x) (.str x)
  | tup {a : Addr} {xs : List V} {ds : List D} : Z a = some (.tup xs) → RepL K Z xs ds → Rep K Z (.ref a) (.tup ds)
  | lst {a : Addr} {xs : List V} {ds : List D} : Z a = some (.lst xs) → RepL K Z xs ds → Rep K Z (.ref a) (.lst ds)
  | scr {a : Addr} {ns : List Int} : SqL K Z a (ns.map V.int) → Rep K Z (.ref a) (.scr ns)
  | fn (n : Str) : Rep K Z (.ref (He.ga K n)) (.fn n)
  | obj (a : Addr) : Rep K Z (.ref a) (.obj a)
inductive RepL (K : PySem.W.Frag) (Z : Hp) : List V → List D → Prop
  | nil : RepL K Z [] []
  | cons {v : V} {vs : List V} {d : D} {ds : List D} : Rep K Z v d → RepL K Z vs ds → RepL K Z (v :: vs) (d :: ds)
end
section
variable {Z Z' : Hp}
mutual
theorem Rep.mono (e : Ex Z Z') : ∀ {v : V} {d : D}, Rep K Z v d → Rep K Z' v d
  | _, _, .non => .non
  | _, _, .bl b => .bl b
  | _, _, .int i => .int i
  | _, _, .str x => .str x
  | _, _, .tup h r => .tup (e _ _ h) (r.mono e)
  | _, _, .lst h r => .lst (e _ _ h) (r.mono e)
  | _, _, .scr h => .scr (e.l h)
  | _, _, .fn n => .fn n
  | _, _, .obj a => .obj a
theorem RepL.mono (e : Ex Z Z') : ∀ {vs : List V} {ds : List D}, RepL K Z vs ds → RepL K Z' vs ds
  | _, _, .nil => .nil
  | _, _, .cons h r => .cons (h.mono e) (r.mono e)
end
theorem RepL.length : ∀ {vs : List V} {ds : List D}, RepL K Z vs ds → vs.length = ds.length
  | _, _, .nil => rfl
  | _, _, .cons _ r => congrArg Nat.succ r.length
theorem RepL.get : ∀ {vs : List V} {ds : List D}, RepL K Z vs ds → ∀ {i : Nat} {d : D}, ds[i]? = some d → ∃ v, vs[i]? = some v ∧ Rep K Z v d
  | _, _, .nil, i, d, h => by simp at h
  | _, _, .cons r t, 0, d, h => by
    have e : _ = d := Option.some.inj h
    subst e
    exact ⟨_, rfl, r⟩
  | _, _, .cons r t, i + 1, d, h => by
    obtain ⟨v, e, q⟩ := t.get (i := i) (by simpa using h)
    exact ⟨v, by simpa using e, q⟩
theorem RepL.get' : ∀ {vs : List V} {ds : List D}, RepL K Z vs ds → ∀ {i : Nat} {v : V}, vs[i]? = some v → ∃ d, ds[i]? = some d ∧ Rep K Z v d
  | _, _, .nil, i, d, h => by simp at h
  | _, _, .cons r t, 0, d, h => by
    have e : _ = d := Option.some.inj h
    subst e
    exact ⟨_, rfl, r⟩
  | _, _, .cons r t, i + 1, d, h => by
    obtain ⟨v, e, q⟩ := t.get' (i := i) (by simpa using h)
    exact ⟨v, by simpa using e, q⟩
theorem RepL.append : ∀ {vs ws : List V} {ds es : List D}, RepL K Z vs ds → RepL K Z ws es → RepL K Z (vs ++ ws) (ds ++ es)
  | _, _, _, _, .nil, s => s
  | _, _, _, _, .cons r t, s => .cons r (t.append s)
theorem RepL.take : ∀ {vs : List V} {ds : List D} (n : Nat), RepL K Z vs ds → RepL K Z (vs.take n) (ds.take n)
  | _, _, 0, _ => .nil
  | _, _, _ + 1, .nil => .nil
  | _, _, n + 1, .cons r t => .cons r (t.take n)
theorem RepL.drop : ∀ {vs : List V} {ds : List D} (n : Nat), RepL K Z vs ds → RepL K Z (vs.drop n) (ds.drop n)
  | _, _, 0, r => r
  | _, _, _ + 1, .nil => .nil
  | _, _, n + 1, .cons r t => t.drop n
theorem RepL.set {v : V} {d : D} (q : Rep K Z v d) : ∀ {vs : List V} {ds : List D} (n : Nat), RepL K Z vs ds → RepL K Z (vs.set n v) (ds.set n d)
  | _, _, _, .nil => .nil
  | _, _, 0, .cons r t => .cons q t
  | _, _, n + 1, .cons r t => .cons r (t.set q n)
theorem RepL.reverse : ∀ {vs : List V} {ds : List D}, RepL K Z vs ds → RepL K Z vs.reverse ds.reverse
  | _, _, .nil => .nil
  | _, _, .cons r t => by
    rw [List.reverse_cons, List.reverse_cons]
    exact t.reverse.append (.cons r .nil)
theorem RepL.ints : ∀ {vs : List V} {ns : List Int}, RepL K Z vs (ns.map D.int) → vs = ns.map V.int
  | [], [], _ => rfl
  | [], _ :: _, h => by cases h
  | _ :: _, [], h => by cases h
  | v :: vs, n :: ns, h => by
    rw [List.map_cons] at h
    cases h with
    | cons r t =>
      cases r
      rw [RepL.ints t] <;> rfl
theorem repL_ints : ∀ (ns : List Int), RepL K Z (ns.map V.int) (ns.map D.int)
  | [] => .nil
  | n :: ns => .cons (.int n) (repL_ints ns)
theorem RepL.strs : ∀ {vs : List V} {ns : List Str}, RepL K Z vs (ns.map D.str) → vs = ns.map V.str
  | [], [], _ => rfl
  | [], _ :: _, h => by cases h
  | _ :: _, [], h => by cases h
  | v :: vs, n :: ns, h => by
    rw [List.map_cons] at h
    cases h with
    | cons r t =>
      cases r
      rw [RepL.strs t] <;> rfl
theorem repL_strs : ∀ (ns : List Str), RepL K Z (ns.map V.str) (ns.map D.str)
  | [] => .nil
  | n :: ns => .cons (.str n) (repL_strs ns)
theorem RepL.bls : ∀ {vs : List V} {ns : List Bool}, RepL K Z vs (ns.map D.bl) → vs = ns.map V.bl
  | [], [], _ => rfl
  | [], _ :: _, h => by cases h
  | _ :: _, [], h => by cases h
  | v :: vs, n :: ns, h => by
    rw [List.map_cons] at h
    cases h with
    | cons r t =>
      cases r
      rw [RepL.bls t] <;> rfl
end

/-! ### what may change, as it lies -/
def keys (M : Mem) : List Nat := M.map (·.1)
/-- two lists, item by item -/
inductive All2 {α β : Type} (F : α → β → Prop) : List α → List β → Prop
  | nil : All2 F [] []
  | cons {a b l m} : F a b → All2 F l m → All2 F (a :: l) (b :: m)
theorem All2.imp {α β : Type} {F G : α → β → Prop} (f : ∀ a b, F a b → G a b) : ∀ {l m}, All2 F l m → All2 G l m
  | _, _, .nil => .nil
  | _, _, .cons h t => .cons (f _ _ h) (t.imp f)
theorem All2.length {α β : Type} {F : α → β → Prop} : ∀ {l m}, All2 F l m → l.length = m.length
  | _, _, .nil => rfl
  | _, _, .cons _ t => congrArg Nat.succ t.length
/-- keys alike, values that lie so -/
def KvR {κ : Type} (K : PySem.W.Frag) (Z : Hp) (p : κ × V) (q : κ × D) : Prop := p.1 = q.1 ∧ Rep K Z p.2 q.2
theorem KvR.mono {κ : Type} {Z Z' : Hp} (e : Ex Z Z') {p : κ × V} {q : κ × D} (h : KvR K Z p q) : KvR K Z' p q := ⟨h.1, h.2.mono e⟩
def CanOk (a b : Int) : Prop := 0 ≤ a ∧ 0 ≤ b ∧ b ≤ 2147483237
def MOk (K : PySem.W.Frag) (Z H : Hp) (p : Addr) : MO → Prop
  | .lst ds => ∃ xs, H p = some (.lst xs) ∧ RepL K Z xs ds
  | .can => ∃ a b, H p = some (.lst [.int a, .int b]) ∧ CanOk a b
  | .dK kvs => ∃ kv, H p = some (.dK kv) ∧ All2 (KvR K Z) kv kvs
  | .dT kvs => ∃ kv, H p = some (.dT kv) ∧ All2 (KvR K Z) kv kvs
  | .ins c fs => ∃ dx fv, H p = some (.ins (He.ga K c) dx fv) ∧ All2 (KvR K Z) fv fs
theorem MOk.mono {Z Z' H H' : Hp} {p : Addr} {o : MO} (e : Ex Z Z') (h : H p = H' p) (m : MOk K Z H p o) : MOk K Z' H' p o := by
  cases o with
  | lst ds => obtain ⟨xs, a, b⟩ := m; exact ⟨xs, by rw [← h]; exact a, b.mono e⟩
  | can => obtain ⟨x, y, a, b⟩ := m; exact ⟨x, y, by rw [← h]; exact a, b⟩
  | dK kvs => obtain ⟨xs, a, b⟩ := m; exact ⟨xs, by rw [← h]; exact a, b.imp fun _ _ z => z.mono e⟩
  | dT kvs => obtain ⟨xs, a, b⟩ := m; exact ⟨xs, by rw [← h]; exact a, b.imp fun _ _ z => z.mono e⟩
  | ins c fs => obtain ⟨dx, xs, a, b⟩ := m; exact ⟨dx, xs, by rw [← h]; exact a, b.imp fun _ _ z => z.mono e⟩
theorem MOk.some {Z H : Hp} {p : Addr} {o : MO} (m : MOk K Z H p o) : ∃ u, H p = some u := by
  cases o with
  | lst ds => obtain ⟨xs, a, b⟩ := m; exact ⟨_, a⟩
  | can => obtain ⟨x, y, a, b⟩ := m; exact ⟨_, a⟩
  | dK kvs => obtain ⟨xs, a, b⟩ := m; exact ⟨_, a⟩
  | dT kvs => obtain ⟨xs, a, b⟩ := m; exact ⟨_, a⟩
  | ins c fs => obtain ⟨dx, xs, a, b⟩ := m; exact ⟨_, a⟩
/-- Z: what never changes again; M: what may -/
structure MemAt (K : PySem.W.Frag) (Z H : Hp) (M : Mem) : Prop where
  zh : Ex Z H
  mem : ∀ p o, (p, o) ∈ M → Z p = none ∧ MOk K Z H p o
  nd : (keys M).Nodup
structure At (K : PySem.W.Frag) (Z H : Hp) (σ : St) (ρ : Env) (M : Mem) : Prop extends MemAt K Z H M where
  sl : ∀ (i : Nat) (d : D), ρ[i]? = some (some d) → ∃ v, σ[i]? = some (some v) ∧ Rep K Z v d
  ln : ρ.length = σ.length
/-- from a state to a later one -/
structure Gr (Z H : Hp) (M : Mem) (Z' H' : Hp) (M' : Mem) : Prop where
  zz : Ex Z Z'
  new : ∀ b o, Z' b = some o → Z b = some o ∨ H b = none ∨ b ∈ keys M ∨ ∃ xs, H b = some (.tup xs)
  keep : ∀ b o, H b = some o → b ∉ keys M → H' b = some o
  kk : ∀ p ∈ keys M', p ∈ keys M ∨ H p = none
theorem Gr.refl (Z H : Hp) (M : Mem) : Gr Z H M Z H M := ⟨Ex.refl Z, fun _ _ h => .inl h, fun _ _ h _ => h, fun _ h => .inl h⟩
theorem Gr.gone {Z H : Hp} {M : Mem} {Z' H' : Hp} {M' : Mem} (g : Gr Z H M Z' H' M') {b : Nat} (h : H' b = none) : H b = none ∨ b ∈ keys M := by
  by_cases hb : b ∈ keys M
  · exact .inr hb
  · cases q : H b with
    | none => exact .inl rfl
    | some o => rw [g.keep b o q hb] at h; cases h
theorem Gr.trans {Z H : Hp} {M : Mem} {Z1 H1 : Hp} {M1 : Mem} {Z2 H2 : Hp} {M2 : Mem} (a : Gr Z H M Z1 H1 M1) (b : Gr Z1 H1 M1 Z2 H2 M2) : Gr Z H M Z2 H2 M2 where
  zz := a.zz.trans b.zz
  new := fun p o h => by
    rcases b.new p o h with h | h | h | ⟨xs, h⟩
    · exact a.new p o h
    · exact (a.gone h).elim (fun z => .inr (.inl z)) fun z => .inr (.inr (.inl z))
    · exact (a.kk p h).elim (fun z => .inr (.inr (.inl z))) fun z => .inr (.inl z)
    · by_cases hp : p ∈ keys M
      · exact .inr (.inr (.inl hp))
      · cases q : H p with
        | none => exact .inr (.inl rfl)
        | some u => rw [a.keep p u q hp] at h; exact .inr (.inr (.inr ⟨xs, h⟩))
  keep := fun p o h hp => b.keep p o (a.keep p o h hp) fun z => by
    rcases a.kk p z with q | q
    · exact hp q
    · rw [h] at q; cases q
  kk := fun p h => by
    rcases b.kk p h with h | h
    · exact a.kk p h
    · exact (a.gone h).elim .inr .inl
/-- an exception as it lies: its class, its dict -/
def ExR (K : PySem.W.Frag) (Z H : Hp) : Exn → Value → Option Addr → Prop
  | .mk c f, cls, d => cls = .ref (He.ga K c) ∧ match f with
    | none => d = none
    | some (n, x) => ∃ a v, d = some a ∧ H a = some (.xd [(n, v)]) ∧ Rep K Z v x

/-! ### transformers, told over the heap -/
/-- what stands ahead of an expression, and what is wanted behind it -/
structure Go {α β : Type} (K : PySem.W.Frag) (W : WX) (rel : Hp → β → α → Prop) (σ : St) (ρ : Env) (Z H : Hp) (M : Mem) (Qd : α → Mem → Prop) (Rd : DR) (Q : β → Hp → Prop) : Prop where
  at_ : At K Z H σ ρ M
  k : ∀ Z' H' M' v d, Gr Z H M Z' H' M' → At K Z' H' σ ρ M' → rel Z' v d → Qd d M' → Q v H'
  r : ∀ Z' H' M' ex cls dd, Gr Z H M Z' H' M' → At K Z' H' σ ρ M' → ExR K Z' H' ex cls dd → Rd ex ρ M' → W cls dd σ H'
def lf {α β : Type} (K : PySem.W.Frag) (W : WX) (rel : Hp → β → α → Prop) (T : DX α) : St → Hp → (β → Hp → Prop) → Prop := fun σ H Q =>
  ∃ Z ρ M Qd Rd, Go K W rel σ ρ Z H M Qd Rd Q ∧ T ρ M Qd Rd
abbrev lE (K : PySem.W.Frag) (W : WX) (T : DTE) : TE := lf K W (Rep K) T
abbrev eqR {α : Type} : Hp → α → α → Prop := fun _ b b' => b = b'
abbrev lT (K : PySem.W.Frag) (W : WX) (T : DTT) : TT := lf K W eqR T
abbrev lA (K : PySem.W.Frag) (W : WX) (T : DTA) : TA := lf K W (RepL K) T
section
variable {W : WX} {σ : St} {ρ : Env} {Z H Z1 H1 : Hp} {M M1 : Mem} {Rd : DR} {α β γ δ : Type} {rel : Hp → β → α → Prop} {rel1 : Hp → δ → γ → Prop} {Qd : α → Mem → Prop} {Q : β → Hp → Prop}
theorem Go.step (G : Go K W rel σ ρ Z H M Qd Rd Q) (g : Gr Z H M Z1 H1 M1) (a : At K Z1 H1 σ ρ M1) : Go K W rel σ ρ Z1 H1 M1 Qd Rd Q :=
  ⟨a, fun Z' H' M' v d g' => G.k Z' H' M' v d (g.trans g'), fun Z' H' M' ex cls dd g' => G.r Z' H' M' ex cls dd (g.trans g')⟩
/-- one part, then what follows -/
theorem Go.seq {T1 : DX γ} {Q1 : γ → Mem → Prop} {Q' : δ → Hp → Prop} (G : Go K W rel σ ρ Z H M Qd Rd Q) (h : T1 ρ M Q1 Rd)
    (k : ∀ Z1 H1 M1 v x, Go K W rel σ ρ Z1 H1 M1 Qd Rd Q → Ex Z Z1 → rel1 Z1 v x → Q1 x M1 → Q' v H1) : lf K W rel1 T1 σ H Q' :=
  ⟨Z, ρ, M, Q1, Rd, ⟨G.at_, fun Z' H' M' v d g a r q => k Z' H' M' v d (G.step g a) g.zz r q, G.r⟩, h⟩
/-- the value is there, nothing has changed -/
theorem Go.val (G : Go K W rel σ ρ Z H M Qd Rd Q) {v : β} {d : α} (r : rel Z v d) (q : Qd d M) : Q v H := G.k Z H M v d (Gr.refl Z H M) G.at_ r q
/-- a new object that never changes -/
theorem At.new (a : At K Z H σ ρ M) {p : Addr} {o : HO} (h : H p = none) : Gr Z H M (upd Z p o) (upd H p o) M ∧ At K (upd Z p o) (upd H p o) σ ρ M := by
  have hz : Z p = none := a.zh.free h
  have hk : ∀ q u, (q, u) ∈ M → q ≠ p := fun q u hq => by
    obtain ⟨w, e⟩ := (a.mem q u hq).2.some
    exact ne_of_none e h
  refine ⟨⟨Ex.new hz, fun b u e => ?_, fun b u e hb => ?_, fun q hq => .inl hq⟩, ⟨⟨fun b u e => ?_, fun q u hq => ⟨?_, ?_⟩, a.nd⟩, fun i d e => ?_, a.ln⟩⟩
  · by_cases hb : b = p
    · exact .inr (.inl (by rw [hb]; exact h))
    · rw [upd_ne hb] at e; exact .inl e
  · rw [upd_ne (ne_of_none e h)]; exact e
  · by_cases hb : b = p
    · rw [hb, upd_same] at e ⊢; exact e
    · rw [upd_ne hb] at e ⊢; exact a.zh b u e
  · rw [upd_ne (hk q u hq)]; exact (a.mem q u hq).1
  · exact (a.mem q u hq).2.mono (Ex.new hz) (by rw [upd_ne (hk q u hq)])
  · obtain ⟨v, e1, r⟩ := a.sl i d e
    exact ⟨v, e1, r.mono (Ex.new hz)⟩
/-- a new object that may change -/
theorem At.newM (a : At K Z H σ ρ M) {p : Addr} {o : HO} {m : MO} (h : H p = none) (hm : MOk K Z (upd H p o) p m) : Gr Z H M Z (upd H p o) ((p, m) :: M) ∧ At K Z (upd H p o) σ ρ ((p, m) :: M) ∧ p ∉ keys M := by
  have hz : Z p = none := a.zh.free h
  have hk : ∀ q u, (q, u) ∈ M → q ≠ p := fun q u hq => by
    obtain ⟨w, e⟩ := (a.mem q u hq).2.some
    exact ne_of_none e h
  have np : p ∉ keys M := fun z => by
    obtain ⟨x, hx, e⟩ := List.mem_map.mp z
    exact hk x.1 x.2 hx e
  refine ⟨⟨Ex.refl Z, fun b u e => .inl e, fun b u e hb => ?_, fun q hq => ?_⟩, ⟨⟨fun b u e => ?_, fun q u hq => ?_, ?_⟩, a.sl, a.ln⟩, np⟩
  · rw [upd_ne (ne_of_none e h)]; exact e
  · rcases List.mem_cons.mp (show q ∈ p :: keys M from hq) with e | e
    · rw [e]; exact .inr h
    · exact .inl e
  · rw [upd_ne (ne_of_none e hz)]; exact a.zh b u e
  · rcases List.mem_cons.mp hq with e | e
    · cases e; exact ⟨hz, hm⟩
    · exact ⟨(a.mem q u e).1, (a.mem q u e).2.mono (Ex.refl Z) (by rw [upd_ne (hk q u e)])⟩
  · exact List.nodup_cons.mpr ⟨np, a.nd⟩
theorem Go.new (G : Go K W rel σ ρ Z H M Qd Rd Q) {p : Addr} {o : HO} {v : β} {d : α} (h : H p = none) (r : rel (upd Z p o) v d) (q : Qd d M) : Q v (upd H p o) :=
  G.k _ _ M v d (G.at_.new h).1 (G.at_.new h).2 r q
theorem Go.newM (G : Go K W rel σ ρ Z H M Qd Rd Q) {p : Addr} {o : HO} {m : MO} {v : β} {d : α} (h : H p = none) (hm : MOk K Z (upd H p o) p m) (r : rel Z v d) (q : p ∉ keys M → Qd d ((p, m) :: M)) : Q v (upd H p o) :=
  G.k _ _ _ v d (G.at_.newM h hm).1 (G.at_.newM h hm).2.1 r (q (G.at_.newM h hm).2.2)
end
end Dl
namespace Dl
open PySem L2
/-! # Expressions -/
section
variable {X : Cx} {W : WX}
theorem wkE {e : Expr} {t t' : TE} (h : PE X e t) (w : ∀ σ H Q, t' σ H Q → t σ H Q) : PE X e t' := ⟨fun p s σ H Q I q => h.run p s σ H Q I (w σ H Q q)⟩
theorem wkT {e : Expr} {t t' : TT} (h : PT X e t) (w : ∀ σ H Q, t' σ H Q → t σ H Q) : PT X e t' := ⟨fun p s σ H Q I q => h.run p s σ H Q I (w σ H Q q)⟩
theorem wkW {e : Expr} {t t' : TT} (h : PW X e t) (w : ∀ σ H Q, t' σ H Q → t σ H Q) : PW X e t' := ⟨fun wh p s σ H Q I q => h.run wh p s σ H Q I (w σ H Q q)⟩
theorem wkA {e : List Expr} {t t' : TA} (h : PA X e t) (w : ∀ σ H Q, t' σ H Q → t σ H Q) : PA X e t' := ⟨fun pos p s σ H Q I q => h.run pos p s σ H Q I (w σ H Q q)⟩
theorem wkI {tg e : Expr} {t t' : TI} (h : PI X tg e t) (w : ∀ σ H Q, t' σ H Q → t σ H Q) : PI X tg e t' := ⟨fun p s σ H Q I q => h.run p s σ H Q I (w σ H Q q)⟩
theorem wkS {e : Stmt} {t t' : TS} (h : PS X e t) (w : ∀ D σ H, t' D σ H → t D σ H) : PS X e t' := ⟨fun p s σ H D I q => h.run p s σ H D I (w D σ H q)⟩
theorem wkSs {e : List Stmt} {t t' : TS} (h : PSs X e t) (w : ∀ D σ H, t' D σ H → t D σ H) : PSs X e t' := ⟨fun p s σ H D I q => h.run p s σ H D I (w D σ H q)⟩
theorem wkG {e : Expr} {t t' : TG} (h : PG X e t) (w : ∀ v σ H Q, t' v σ H Q → t v σ H Q) : PG X e t' := ⟨fun p s σ H v u Q I r q => h.run p s σ H v u Q I r (w v σ H Q q)⟩
theorem wkGs {e : List Expr} {t t' : TGs} (h : PGs X e t) (w : ∀ v σ H Q, t' v σ H Q → t v σ H Q) : PGs X e t' := ⟨fun p s σ H v u Q I r q => h.run p s σ H v u Q I r (w v σ H Q q)⟩
abbrev DE (X : Cx) (W : WX) (e : Expr) (T : DTE) : Prop := PE X e (lE X.K W T)
abbrev DT (X : Cx) (W : WX) (e : Expr) (T : DTT) : Prop := PT X e (lT X.K W T)
abbrev DW (X : Cx) (W : WX) (e : Expr) (T : DTT) : Prop := PW X e (lT X.K W T)
abbrev DA (X : Cx) (W : WX) (es : List Expr) (T : DTA) : Prop := PA X es (lA X.K W T)
end

/-! ### transformers -/
def dVar (i : Nat) : DTE := fun ρ M Q _ => match nth ρ i with
  | some d => Q d M
  | none => False
def dC (d : D) : DTE := fun _ M Q _ => Q d M
def dOp (o : D → D → Mem → DQ → Prop) (a b : DTE) : DTE := fun ρ M Q R => a ρ M (fun x M1 => b ρ M1 (fun y M2 => o x y M2 Q) R) R
def dUn (o : D → Mem → DQ → Prop) (a : DTE) : DTE := fun ρ M Q R => a ρ M (fun x M1 => o x M1 Q) R
/-- a value that is a bool, as a test -/
def dTst (a : DTE) : DTT := fun ρ M Q R => a ρ M (fun x M1 => match x with
  | .bl b => Q b M1
  | _ => False) R
def dAnd (a b : DTT) : DTT := fun ρ M Q R => a ρ M (fun c M1 => if c = true then b ρ M1 Q R else Q false M1) R
def dOr (a b : DTT) : DTT := fun ρ M Q R => a ρ M (fun c M1 => if c = true then Q true M1 else b ρ M1 Q R) R
def dNot (a : DTT) : DTT := fun ρ M Q R => a ρ M (fun c M1 => Q (!c) M1) R
/-- and, or, not as values -/
def dAndV (a b : DTE) : DTE := fun ρ M Q R => a ρ M (fun x M1 => match x with
  | .bl c => if c = true then b ρ M1 Q R else Q (.bl false) M1
  | _ => False) R
def dOrV (a b : DTE) : DTE := fun ρ M Q R => a ρ M (fun x M1 => match x with
  | .bl c => if c = true then Q (.bl true) M1 else b ρ M1 Q R
  | _ => False) R
def dNotV (a : DTE) : DTE := fun ρ M Q R => a ρ M (fun x M1 => match x with
  | .bl c => Q (.bl (!c)) M1
  | _ => False) R
def dIfE (c : DTT) (a b : DTE) : DTE := fun ρ M Q R => c ρ M (fun k M1 => if k = true then a ρ M1 Q R else b ρ M1 Q R) R
def dNil : DTA := fun _ M Q _ => Q [] M
def dCons (a : DTE) (r : DTA) : DTA := fun ρ M Q R => a ρ M (fun x M1 => r ρ M1 (fun xs M2 => Q (x :: xs) M2) R) R
def dTup (a : DTA) : DTE := fun ρ M Q R => a ρ M (fun xs M1 => xs.length ≤ 100000 ∧ Q (.tup xs) M1) R
def dLst (a : DTA) : DTE := fun ρ M Q R => a ρ M (fun xs M1 => xs.length ≤ 100000 ∧ Q (.lst xs) M1) R
/-- a list that is to change yet -/
def dNew (a : DTA) : DTE := fun ρ M Q R => a ρ M (fun xs M1 => xs.length ≤ 100000 ∧ ∀ p, p ∉ keys M1 → Q (.obj p) ((p, .lst xs) :: M1)) R
def dCall (S : DSp) (a : DTA) : DTE := fun ρ M Q R => a ρ M (fun xs M1 => S xs M1 Q (fun ex M2 => R ex ρ M2)) R
/-- a built-in of values -/
def dB (S : List D → Mem → DQ → Prop) (a : DTA) : DTE := fun ρ M Q R => a ρ M (fun xs M1 => S xs M1 Q) R
/-- a < b < c -/
def dChain (o o' : D → D → Mem → DQ → Prop) (a b c : DTE) : DTE := fun ρ M Q R => a ρ M (fun x M1 => b ρ M1 (fun y M2 => o x y M2 fun z M3 => match z with
  | .bl k => if k = true then c ρ M3 (fun w M4 => o' y w M4 Q) R else Q (.bl false) M3
  | _ => False) R) R

/-! ### soundness -/
theorem sz {n : Nat} (h : n ≤ 100000) : n ≤ sizeLine := Nat.le_trans h (by decide)
/-- an operation on values -/
def OpD (K : PySem.W.Frag) (r : R2) (o : D → D → Mem → DQ → Prop) : Prop :=
  ∀ {W : WX} {σ : St} {ρ : Env} {Z H : Hp} {M : Mem} {Qd : DQ} {Rd : DR} {Q : VK} {v w : V} {x y : D}, Go K W (Rep K) σ ρ Z H M Qd Rd Q → Rep K Z v x → Rep K Z w y → o x y M Qd → r v w H Q
def UnD (K : PySem.W.Frag) (r : V → Hp → VK → Prop) (o : D → Mem → DQ → Prop) : Prop :=
  ∀ {W : WX} {σ : St} {ρ : Env} {Z H : Hp} {M : Mem} {Qd : DQ} {Rd : DR} {Q : VK} {v : V} {x : D}, Go K W (Rep K) σ ρ Z H M Qd Rd Q → Rep K Z v x → o x M Qd → r v H Q
/-- a built-in's call on values -/
def CallD (K : PySem.W.Frag) (r : List V → Hp → VK → Prop) (S : List D → Mem → DQ → Prop) : Prop :=
  ∀ {W : WX} {σ : St} {ρ : Env} {Z H : Hp} {M : Mem} {Qd : DQ} {Rd : DR} {Q : VK} {vs : List V} {xs : List D}, Go K W (Rep K) σ ρ Z H M Qd Rd Q → RepL K Z vs xs → S xs M Qd → r vs H Q
section
variable {X : Cx} {W : WX} {a b c e : Expr} {es rest : List Expr} {pos p : Pos} {Ta Tb Tc : DTE} {A B : DTT} {TA TR : DTA} {K : PySem.W.Frag} {o o' : D → D → Mem → DQ → Prop} {r r' : R2}
theorem de_var (i : Nat) {x : Str} (hN : X.N[i]? = some x := by rfl) (hv : Vis X.env.scope x := by first | exact Or.inl rfl | exact Or.inr (Or.inl rfl) | exact Or.inr (Or.inr rfl))
    (hd : (x == ("__debug__" : Str)) = false := by decide) (hcd : (x == ("__classdict__" : Str)) = false := by decide) : DE X W (.Name x pos) (dVar i) := by
  refine wkE (pv i hN hv hd hcd) fun σ H Q h => ?_
  obtain ⟨Z, ρ, M, Qd, Rd, G, h⟩ := h
  unfold dVar at h
  cases q : nth ρ i with
  | none => rw [q] at h; exact h.elim
  | some d =>
    rw [q] at h
    obtain ⟨v, e1, rv⟩ := G.at_.sl i d ((nth_eq ρ i d).mp q)
    exact ⟨v, e1, G.val rv h⟩
theorem de_c {v : V} {d : D} (he : PE X e (tC v)) (rv : ∀ Z, Rep X.K Z v d) : DE X W e (dC d) :=
  wkE he fun σ H Q ⟨Z, ρ, M, Qd, Rd, G, h⟩ => G.val (rv Z) h
theorem de_int {i : Int} {j : Nat} : DE X W (.Constant (.int i) j pos) (dC (.int i)) := de_c pe_int fun _ => .int i
theorem de_bl {i : Bool} {j : Nat} : DE X W (.Constant (.bool i) j pos) (dC (.bl i)) := de_c pe_bl fun _ => .bl i
theorem de_non {j : Nat} : DE X W (.Constant .none j pos) (dC .non) := de_c pe_non fun _ => .non
theorem de_str {i : Str} {j : Nat} : DE X W (.Constant (.str i) j pos) (dC (.str i)) := de_c pe_str fun _ => .str i
/-- a constant of the module; a def, a class as a value -/
theorem de_gint {x : Str} {i : Int} (hm : ∃ t, X.mg x = some (.int i t)) (hg : Gl X x := by rfl) (hd : (x == ("__debug__" : Str)) = false := by decide) : DE X W (.Name x pos) (dC (.int i)) := by
  obtain ⟨t, hm⟩ := hm
  exact de_c (pe_glob hg hm (v := .int i) ⟨t, rfl⟩ hd) fun _ => .int i
theorem de_gstr {x z : Str} (hm : ∃ t, X.mg x = some (.str z t)) (hg : Gl X x := by rfl) (hd : (x == ("__debug__" : Str)) = false := by decide) : DE X W (.Name x pos) (dC (.str z)) := by
  obtain ⟨t, hm⟩ := hm
  exact de_c (pe_glob hg hm (v := .str z) ⟨t, rfl⟩ hd) fun _ => .str z
theorem de_gfn {x : Str} (hm : X.mg x = some (.ref (He.ga X.K x))) (hg : Gl X x := by rfl) (hd : (x == ("__debug__" : Str)) = false := by decide) : DE X W (.Name x pos) (dC (.fn x)) :=
  de_c (pe_glob hg hm (v := .ref (He.ga X.K x)) rfl hd) fun _ => .fn x
theorem dOp_ok (hd : OpD K r o) {σ : St} {H : Hp} {Q : VK} (h : lE K W (dOp o Ta Tb) σ H Q) : tOp r (lE K W Ta) (lE K W Tb) σ H Q := by
  obtain ⟨Z, ρ, M, Qd, Rd, G, h⟩ := h
  refine G.seq (rel1 := Rep K) h fun Z1 H1 M1 v x G1 _ rx h1 => ?_
  refine G1.seq (rel1 := Rep K) h1 fun Z2 H2 M2 w y G2 e2 ry h2 => ?_
  exact hd G2 (rx.mono e2) ry h2
theorem de_bin {op : Operator} (ho : OpR X (binaryOp op) r) (hd : OpD X.K r o) (ha : DE X W a Ta) (hb : DE X W b Tb) : DE X W (.BinOp a op b pos) (dOp o Ta Tb) :=
  wkE (pe_op ho ha hb) fun _ _ _ h => dOp_ok hd h
theorem de_un {op : UnaryOp} {r : V → Hp → VK → Prop} {o : D → Mem → DQ → Prop} (ho : UnR X (unaryOp op) r) (hd : UnD X.K r o) (ha : DE X W a Ta) : DE X W (.UnaryOp op a pos) (dUn o Ta) :=
  wkE (pe_un ho ha) fun σ H Q ⟨Z, ρ, M, Qd, Rd, G, h⟩ => G.seq (rel1 := Rep X.K) h fun Z1 H1 M1 v x G1 _ rx h1 => hd G1 rx h1
theorem de_cmp {op : CmpOp} (ho : OpR X (compareOp op) r) (hd : OpD X.K r o) (ha : DE X W a Ta) (hb : DE X W b Tb) (hm : behindInMarks op b = false) : DE X W (.Compare a [op] [b] pos) (dOp o Ta Tb) :=
  wkE (pe_cmpR ho ha hb hm) fun _ _ _ h => dOp_ok hd h
theorem tst_ok {T : DTE} {t : TE} (w : ∀ σ H Q, lE K W T σ H Q → t σ H Q) {σ : St} {H : Hp} {Q : Bool → Hp → Prop} (h : lT K W (dTst T) σ H Q) : tTest t σ H Q := by
  obtain ⟨Z, ρ, M, Qd, Rd, G, h⟩ := h
  refine w _ _ _ (G.seq (rel1 := Rep K) h fun Z1 H1 M1 v x G1 _ rx h1 => ?_)
  cases x with
  | bl k => cases rx; exact ⟨k, rfl, G1.val (rel := eqR) rfl h1⟩
  | _ => exact h1.elim
theorem dt_cmp {op : CmpOp} (ho : OpR X (compareOp op) r) (hd : OpD X.K r o) (ha : DE X W a Ta) (hb : DE X W b Tb) (hm : behindInMarks op b = false) : DT X W (.Compare a [op] [b] pos) (dTst (dOp o Ta Tb)) :=
  wkT (pt_cmpR ho ha hb hm) fun _ _ _ h => tst_ok (fun _ _ _ => dOp_ok hd) h
theorem dt_val (ha : DE X W e Ta) (he : ∀ whole, isTrue e X.env whole = (do let v ← whole; standAt e.pos; holding [v] (truthy v)) := by intro _; rfl) : DT X W e (dTst Ta) :=
  wkT (pt_val ha he) fun _ _ _ h => tst_ok (fun _ _ _ q => q) h
theorem dChain_ok (hd : OpD K r o) (hd' : OpD K r' o') {σ : St} {H : Hp} {Q : VK} (h : lE K W (dChain o o' Ta Tb Tc) σ H Q) : tChain r r' (lE K W Ta) (lE K W Tb) (lE K W Tc) σ H Q := by
  obtain ⟨Z, ρ, M, Qd, Rd, G, h⟩ := h
  refine G.seq (rel1 := Rep K) h fun Z1 H1 M1 v x G1 _ rx h1 => ?_
  refine G1.seq (rel1 := Rep K) h1 fun Z2 H2 M2 w y G2 e2 ry h2 => ?_
  refine hd (Qd := fun z M3 => match z with
    | .bl k => if k = true then Tc ρ M3 (fun w M4 => o' y w M4 Qd) Rd else Qd (.bl false) M3
    | _ => False) (Rd := Rd) (W := W) (σ := σ) (ρ := ρ) ⟨G2.at_, fun Z' H' M' z d g a rz q => ?_, G2.r⟩ (rx.mono e2) ry h2
  have G3 := G2.step g a
  cases d with
  | bl k =>
    cases rz
    refine ⟨k, rfl, ?_⟩
    dsimp only at q
    by_cases hk : k = true
    · rw [if_pos hk] at q ⊢
      exact G3.seq (rel1 := Rep K) q fun Z4 H4 M4 w' y' G4 e4 ry' h4 => hd' G4 ((ry.mono g.zz).mono e4) ry' h4
    · rw [if_neg hk] at q ⊢
      exact G3.val (.bl false) q
  | _ => exact q.elim
theorem de_chain {op op' : CmpOp} (ho : OpR X (compareOp op) r) (ho' : OpR X (compareOp op') r') (hd : OpD X.K r o) (hd' : OpD X.K r' o') (ha : DE X W a Ta) (hb : DE X W b Tb) (hc : DE X W c Tc)
    (hm : lastMarks [op, op'] [b, c] = false := by with_unfolding_all rfl) : DE X W (.Compare a [op, op'] [b, c] pos) (dChain o o' Ta Tb Tc) :=
  wkE (pe_chain ho ho' ha hb hc hm) fun _ _ _ h => dChain_ok hd hd' h
theorem dt_chain {op op' : CmpOp} (ho : OpR X (compareOp op) r) (ho' : OpR X (compareOp op') r') (hd : OpD X.K r o) (hd' : OpD X.K r' o') (ha : DE X W a Ta) (hb : DE X W b Tb) (hc : DE X W c Tc)
    (hm : lastMarks [op, op'] [b, c] = false := by with_unfolding_all rfl) : DT X W (.Compare a [op, op'] [b, c] pos) (dTst (dChain o o' Ta Tb Tc)) :=
  wkT (pt_chain ho ho' ha hb hc hm) fun _ _ _ h => tst_ok (fun _ _ _ => dChain_ok hd hd') h
theorem dw_and1 (ha : DT X W a A) : DW X W (.BoolOp .And [a] pos) A := pw_and1 ha
theorem dw_or1 (ha : DT X W a A) : DW X W (.BoolOp .Or [a] pos) A := pw_or1 ha
theorem dw_and (ha : DT X W a A) (hb : DW X W (.BoolOp .And (b :: rest) pos) B) : DW X W (.BoolOp .And (a :: b :: rest) pos) (dAnd A B) :=
  wkW (pw_and ha hb) fun σ H Q ⟨Z, ρ, M, Qd, Rd, G, h⟩ => G.seq (rel1 := eqR) h fun Z1 H1 M1 v x G1 _ rx h1 => by
    cases (show v = x from rx)
    by_cases hk : v = true
    · rw [if_pos hk] at h1 ⊢; exact ⟨_, _, _, _, _, G1, h1⟩
    · rw [if_neg hk] at h1 ⊢; exact G1.val (rel := eqR) rfl h1
theorem dw_or (ha : DT X W a A) (hb : DW X W (.BoolOp .Or (b :: rest) pos) B) : DW X W (.BoolOp .Or (a :: b :: rest) pos) (dOr A B) :=
  wkW (pw_or ha hb) fun σ H Q ⟨Z, ρ, M, Qd, Rd, G, h⟩ => G.seq (rel1 := eqR) h fun Z1 H1 M1 v x G1 _ rx h1 => by
    cases (show v = x from rx)
    by_cases hk : v = true
    · rw [if_pos hk] at h1 ⊢; exact G1.val (rel := eqR) rfl h1
    · rw [if_neg hk] at h1 ⊢; exact ⟨_, _, _, _, _, G1, h1⟩
theorem dt_not (ha : DT X W a A) : DT X W (.UnaryOp .Not a pos) (dNot A) :=
  wkT (pt_not ha) fun σ H Q ⟨Z, ρ, M, Qd, Rd, G, h⟩ => G.seq (rel1 := eqR) h fun Z1 H1 M1 v x G1 _ rx h1 => by
    cases (show v = x from rx)
    exact G1.val (rel := eqR) rfl h1
theorem de_not (ha : DE X W a Ta) : DE X W (.UnaryOp .Not a pos) (dNotV Ta) :=
  wkE (pe_not ha) fun σ H Q ⟨Z, ρ, M, Qd, Rd, G, h⟩ => G.seq (rel1 := Rep X.K) h fun Z1 H1 M1 v x G1 _ rx h1 => by
    cases x with
    | bl k => cases rx; exact ⟨k, rfl, G1.val (.bl _) h1⟩
    | _ => exact h1.elim
theorem de_ifE (hc : DT X W c A) (ha : DE X W a Ta) (hb : DE X W b Tb) : DE X W (.IfExp c a b pos) (dIfE A Ta Tb) :=
  wkE (pe_ifExp hc ha hb) fun σ H Q ⟨Z, ρ, M, Qd, Rd, G, h⟩ => G.seq (rel1 := eqR) h fun Z1 H1 M1 v x G1 _ rx h1 => by
    cases (show v = x from rx)
    by_cases hk : v = true
    · rw [if_pos hk] at h1 ⊢; exact ⟨_, _, _, _, _, G1, h1⟩
    · rw [if_neg hk] at h1 ⊢; exact ⟨_, _, _, _, _, G1, h1⟩
theorem da_nil : DA X W [] dNil := wkA pa_nil fun σ H Q ⟨Z, ρ, M, Qd, Rd, G, h⟩ => G.val .nil h
theorem da_cons (ha : DE X W e Ta) (hr : DA X W es TR) (hs : starEach (e :: es) X.env = (false, eval e X.env) :: starEach es X.env := by rfl) : DA X W (e :: es) (dCons Ta TR) :=
  wkA (pa_cons ha hr hs) fun σ H Q ⟨Z, ρ, M, Qd, Rd, G, h⟩ => G.seq (rel1 := Rep X.K) h fun Z1 H1 M1 v x G1 _ rx h1 =>
    G1.seq (rel1 := RepL X.K) h1 fun Z2 H2 M2 vs xs G2 e2 rs h2 => G2.val (.cons (rx.mono e2) rs) h2
theorem de_tup {x1 : Nat} (h : DA X W es TA) : DE X W (.Tuple es x1 pos) (dTup TA) :=
  wkE (pe_tup h) fun σ H Q ⟨Z, ρ, M, Qd, Rd, G, h⟩ => G.seq (rel1 := RepL X.K) h fun Z1 H1 M1 vs xs G1 _ rs h1 =>
    ⟨by rw [rs.length]; exact sz h1.1, fun p hp => G1.new (o := .tup vs) hp (.tup upd_same (rs.mono (Ex.new (G1.at_.zh.free hp)))) h1.2⟩
theorem de_lst (h : DA X W es TA) : DE X W (.List es pos) (dLst TA) :=
  wkE (pe_lst h) fun σ H Q ⟨Z, ρ, M, Qd, Rd, G, h⟩ => G.seq (rel1 := RepL X.K) h fun Z1 H1 M1 vs xs G1 _ rs h1 =>
    ⟨by rw [rs.length]; exact sz h1.1, fun p hp => G1.new (o := .lst vs) hp (.lst upd_same (rs.mono (Ex.new (G1.at_.zh.free hp)))) h1.2⟩
theorem de_new (h : DA X W es TA) : DE X W (.List es pos) (dNew TA) :=
  wkE (pe_lst h) fun σ H Q ⟨Z, ρ, M, Qd, Rd, G, h⟩ => G.seq (rel1 := RepL X.K) h fun Z1 H1 M1 vs xs G1 _ rs h1 =>
    ⟨by rw [rs.length]; exact sz h1.1, fun p hp => G1.newM (o := .lst vs) (m := .lst xs) hp ⟨vs, upd_same, rs⟩ (.obj p) (h1.2 p)⟩
/-- and, or as values -/
theorem de_and1 (ha : DE X W a Ta) : DE X W (.BoolOp .And [a] pos) Ta := pe_one ha
theorem de_or1 (ha : DE X W a Ta) : DE X W (.BoolOp .Or [a] pos) Ta := pe_one ha
theorem de_and (ha : DE X W a Ta) (hb : DE X W (.BoolOp .And (b :: rest) pos) Tb) : DE X W (.BoolOp .And (a :: b :: rest) pos) (dAndV Ta Tb) :=
  wkE (pe_and ha hb) fun σ H Q ⟨Z, ρ, M, Qd, Rd, G, h⟩ => G.seq (rel1 := Rep X.K) h fun Z1 H1 M1 v x G1 _ rx h1 => by
    cases x with
    | bl k =>
      cases rx
      refine ⟨k, rfl, ?_⟩
      by_cases hk : k = true
      · rw [if_pos hk]; dsimp only at h1; rw [if_pos hk] at h1; exact ⟨_, _, _, _, _, G1, h1⟩
      · rw [if_neg hk]; dsimp only at h1; rw [if_neg hk] at h1; exact G1.val (.bl false) h1
    | _ => exact h1.elim
theorem de_or (ha : DE X W a Ta) (hb : DE X W (.BoolOp .Or (b :: rest) pos) Tb) : DE X W (.BoolOp .Or (a :: b :: rest) pos) (dOrV Ta Tb) :=
  wkE (pe_or ha hb) fun σ H Q ⟨Z, ρ, M, Qd, Rd, G, h⟩ => G.seq (rel1 := Rep X.K) h fun Z1 H1 M1 v x G1 _ rx h1 => by
    cases x with
    | bl k =>
      cases rx
      refine ⟨k, rfl, ?_⟩
      by_cases hk : k = true
      · rw [if_pos hk]; dsimp only at h1; rw [if_pos hk] at h1; exact G1.val (.bl true) h1
      · rw [if_neg hk]; dsimp only at h1; rw [if_neg hk] at h1; exact ⟨_, _, _, _, _, G1, h1⟩
    | _ => exact h1.elim
end
end Dl
namespace Dl
open PySem L2
/-! # Statements, loops, comprehensions, defs -/
/-! ### transformers -/
def dNext : DTS := fun E ρ M _ => E.nx ρ M
def dSeq (t u : DTS) : DTS := fun E ρ M R => t { E with nx := fun ρ1 M1 => u E ρ1 M1 R } ρ M R
def dDrop (a : DTE) : DTS := fun E ρ M R => a ρ M (fun _ M1 => E.nx ρ M1) R
def dRet (a : DTE) : DTS := fun E ρ M R => a ρ M E.rt R
def dRetN : DTS := fun E _ M _ => E.rt .non M
def dIf (c : DTT) (t u : DTS) : DTS := fun E ρ M R => c ρ M (fun k M1 => if k = true then t E ρ M1 R else u E ρ M1 R) R
def dAsg (a : DTE) (g : DTG) : DTS := fun E ρ M R => a ρ M (fun x M1 => g x ρ M1 E.nx) R
def gN (i : Nat) : DTG := fun d ρ M Q => Q (put ρ i d) M
/-- several targets, one after another -/
def gSeq : List DTG → List D → Env → Mem → (Env → Mem → Prop) → Prop
  | [], [], ρ, M, Q => Q ρ M
  | g :: gs, d :: ds, ρ, M, Q => g d ρ M fun ρ1 M1 => gSeq gs ds ρ1 M1 Q
  | _, _, _, _, _ => False
def gT (gs : List DTG) : DTG := fun d ρ M Q => match d with
  | .tup ds => gSeq gs ds ρ M Q
  | _ => False
/-- a, b = x, y of plain names: stored from the right -/
def dPar2 (i j : Nat) (a : DTA) : DTS := fun E ρ M R => a ρ M (fun xs M1 => match xs with
  | [x, y] => E.nx (put (put ρ i x) j y) M1
  | _ => False) R
def dPar3 (i j l : Nat) (a : DTA) : DTS := fun E ρ M R => a ρ M (fun xs M1 => match xs with
  | [x, y, z] => E.nx (put (put (put ρ i x) j y) l z) M1
  | _ => False) R
def dAug (i : Nat) (o : D → D → Mem → DQ → Prop) (a : DTE) : DTS := fun E ρ M R => match nth ρ i with
  | some x => a ρ M (fun y M1 => o x y M1 fun z M2 => E.nx (put ρ i z) M2) R
  | none => False
/-- raise C('..'), a class of the program without an own __init__ -/
def dRaise (c : Str) : DTS := fun _ ρ M R => R (.mk c none) ρ M
def dLoop (g : DTG) (t : DTS) (E : DEnds) (R : DR) : List D → Env → Mem → Prop
  | [], ρ, M => E.nx ρ M
  | d :: ds, ρ, M => g d ρ M fun ρ1 M1 => t { nx := dLoop g t E R ds, rt := E.rt, bk := E.nx, ct := dLoop g t E R ds } ρ1 M1 R
def dFor (it : DTA) (g : DTG) (t : DTS) : DTS := fun E ρ M R => it ρ M (fun ds M1 => dLoop g t E R ds ρ M1) R
def dWh (c : DTT) (t : DTS) (E : DEnds) (R : DR) : Nat → Env → Mem → Prop
  | 0, _, _ => False
  | n + 1, ρ, M => c ρ M (fun b M1 => if b = true then t { nx := dWh c t E R n, rt := E.rt, bk := E.nx, ct := dWh c t E R n } ρ M1 R else E.nx ρ M1) R
def dWhile (c : DTT) (t : DTS) : DTS := fun E ρ M R => ∃ n, dWh c t E R n ρ M
def noR : DR := fun _ _ _ => False
def dYes : DTT := fun _ M Q _ => Q true M
def dLcL (g : DTG) (tt : DTT) (te : DTE) (ρ : Env) (Q : DQ) : List D → List D → Mem → Prop
  | [], acc, M => Q (.lst acc) M
  | d :: ds, acc, M => g d ρ M fun ρ1 M1 => tt ρ1 M1 (fun b M2 => if b = true then te ρ1 M2 (fun y M3 => dLcL g tt te ρ Q ds (acc ++ [y]) M3) noR else dLcL g tt te ρ Q ds acc M2) noR
def dLc (vs : List Nat) (it : DTA) (g : DTG) (tt : DTT) (te : DTE) : DTE := fun ρ M Q R => it ρ M (fun ds M1 => ds.length ≤ 100000 ∧ dLcL g tt te (dels ρ vs) Q ds [] M1) R

/-! ### statements over the heap -/
structure GoS (K : PySem.W.Frag) (W : WX) (σ : St) (ρ : Env) (Z H : Hp) (M : Mem) (E : DEnds) (Rd : DR) (D : Ends) : Prop where
  at_ : At K Z H σ ρ M
  nx : ∀ Z' H' M' σ' ρ', Gr Z H M Z' H' M' → At K Z' H' σ' ρ' M' → E.nx ρ' M' → D.nx σ' H'
  bk : ∀ Z' H' M' σ' ρ', Gr Z H M Z' H' M' → At K Z' H' σ' ρ' M' → E.bk ρ' M' → D.bk σ' H'
  ct : ∀ Z' H' M' σ' ρ', Gr Z H M Z' H' M' → At K Z' H' σ' ρ' M' → E.ct ρ' M' → D.ct σ' H'
  rt : ∀ Z' H' M' v d, Gr Z H M Z' H' M' → MemAt K Z' H' M' → Rep K Z' v d → E.rt d M' → D.rt v H'
  r : ∀ Z' H' M' σ' ρ' ex cls dd, Gr Z H M Z' H' M' → At K Z' H' σ' ρ' M' → ExR K Z' H' ex cls dd → Rd ex ρ' M' → W cls dd σ' H'
def lS (K : PySem.W.Frag) (W : WX) (T : DTS) : TS := fun D σ H => ∃ Z ρ M E Rd, GoS K W σ ρ Z H M E Rd D ∧ T E ρ M Rd
/-- but at the slots S nothing is stored -/
structure Off (S : List Nat) (σ σ' : St) : Prop where
  off : ∀ i : Nat, i ∉ S → σ'[i]? = σ[i]?
  len : σ'.length = σ.length
theorem Off.refl (σ : St) : Off [] σ σ := ⟨fun _ _ => rfl, rfl⟩
theorem Off.trans {S T : List Nat} {σ σ1 σ2 : St} (a : Off S σ σ1) (b : Off T σ1 σ2) : Off (S ++ T) σ σ2 :=
  ⟨fun i h => (b.off i fun z => h (List.mem_append_right _ z)).trans (a.off i fun z => h (List.mem_append_left _ z)), b.len.trans a.len⟩
def lG (K : PySem.W.Frag) (S : List Nat) (g : DTG) : TG := fun v σ H Q => ∃ Z ρ M d Qd, At K Z H σ ρ M ∧ Rep K Z v d ∧ g d ρ M Qd ∧ ∀ Z' H' M' σ' ρ', Gr Z H M Z' H' M' → At K Z' H' σ' ρ' M' → Off S σ σ' → Qd ρ' M' → Q σ' H'
def lGs (K : PySem.W.Frag) (S : List Nat) (gs : List DTG) : TGs := fun vs σ H Q => ∃ Z ρ M ds Qd, At K Z H σ ρ M ∧ RepL K Z vs ds ∧ gSeq gs ds ρ M Qd ∧ ∀ Z' H' M' σ' ρ', Gr Z H M Z' H' M' → At K Z' H' σ' ρ' M' → Off S σ σ' → Qd ρ' M' → Q σ' H'
/-- what an iterator walks: ds -/
structure Walk (K : PySem.W.Frag) (Z : Hp) (J : It) (ds : List D) : Prop where
  stop : ∀ H, Ex Z H → J.stop ds.length H
  go : ∀ i H, Ex Z H → i < ds.length → J.go i H
  yld : ∀ i H v H' d, Ex Z H → J.yld i H v H' → ds[i]? = some d → (H' = H ∧ Rep K Z v d) ∨ ∃ p o, H p = none ∧ H' = upd H p o ∧ Rep K (upd Z p o) v d
abbrev lI (K : PySem.W.Frag) (W : WX) (T : DTA) : TI := lf K W (fun Z J ds => Walk K Z J ds) T

section
variable {K : PySem.W.Frag} {W : WX} {σ σ1 : St} {ρ ρ1 : Env} {Z H Z1 H1 : Hp} {M M1 : Mem} {E : DEnds} {Rd : DR} {D : Ends}
theorem GoS.step (G : GoS K W σ ρ Z H M E Rd D) (g : Gr Z H M Z1 H1 M1) (a : At K Z1 H1 σ1 ρ1 M1) : GoS K W σ1 ρ1 Z1 H1 M1 E Rd D :=
  ⟨a, fun Z' H' M' σ' ρ' g' => G.nx Z' H' M' σ' ρ' (g.trans g'), fun Z' H' M' σ' ρ' g' => G.bk Z' H' M' σ' ρ' (g.trans g'), fun Z' H' M' σ' ρ' g' => G.ct Z' H' M' σ' ρ' (g.trans g'), fun Z' H' M' v d g' => G.rt Z' H' M' v d (g.trans g'), fun Z' H' M' σ' ρ' ex cls dd g' => G.r Z' H' M' σ' ρ' ex cls dd (g.trans g')⟩
/-- an expression's part, then what follows -/
theorem GoS.seq {α β : Type} {rel1 : Hp → β → α → Prop} {T1 : DX α} {Q1 : α → Mem → Prop} {Q' : β → Hp → Prop} (G : GoS K W σ ρ Z H M E Rd D) (h : T1 ρ M Q1 Rd)
    (k : ∀ Z1 H1 M1 v x, GoS K W σ ρ Z1 H1 M1 E Rd D → Gr Z H M Z1 H1 M1 → rel1 Z1 v x → Q1 x M1 → Q' v H1) : lf K W rel1 T1 σ H Q' :=
  ⟨Z, ρ, M, Q1, Rd, ⟨G.at_, fun Z' H' M' v d g a r q => k Z' H' M' v d (G.step g a) g r q, fun Z' H' M' ex cls dd g a => G.r Z' H' M' σ ρ ex cls dd g a⟩, h⟩
theorem GoS.next (G : GoS K W σ ρ Z H M E Rd D) (q : E.nx ρ M) : D.nx σ H := G.nx Z H M σ ρ (Gr.refl Z H M) G.at_ q
theorem At.set (a : At K Z H σ ρ M) (i : Nat) {v : V} {d : Dl.D} (r : Rep K Z v d) : At K Z H (σ.set i (some v)) (put ρ i d) M := by
  refine ⟨⟨a.zh, a.mem, a.nd⟩, fun j e h => ?_, by rw [put_eq, List.length_set, List.length_set]; exact a.ln⟩
  rw [put_eq] at h
  by_cases hj : i = j
  · subst hj
    by_cases hi : i < ρ.length
    · rw [List.getElem?_set_self hi] at h
      cases h
      exact ⟨v, by rw [List.getElem?_set_self (by rw [← a.ln]; exact hi)], r⟩
    · rw [List.getElem?_eq_none (by simpa using hi)] at h; cases h
  · rw [List.getElem?_set_ne hj] at h
    obtain ⟨w, e1, r1⟩ := a.sl j e h
    exact ⟨w, by rw [List.getElem?_set_ne hj]; exact e1, r1⟩
end

section
variable {X : Cx} {W : WX} {a b c e tg : Expr} {es : List Expr} {st : Stmt} {sts : List Stmt} {pos p : Pos} {Ta Tb : DTE} {A : DTT} {TA : DTA} {T U : DTS} {g : DTG} {gs : List DTG}
abbrev DS (X : Cx) (W : WX) (s : Stmt) (T : DTS) : Prop := PS X s (lS X.K W T)
abbrev DSs (X : Cx) (W : WX) (s : List Stmt) (T : DTS) : Prop := PSs X s (lS X.K W T)
abbrev DG (X : Cx) (S : List Nat) (e : Expr) (g : DTG) : Prop := PG X e (lG X.K S g)
abbrev DGs (X : Cx) (S : List Nat) (es : List Expr) (gs : List DTG) : Prop := PGs X es (lGs X.K S gs)
abbrev DI (X : Cx) (W : WX) (tg e : Expr) (T : DTA) : Prop := PI X tg e (lI X.K W T)
theorem ds_nil : DSs X W [] dNext := wkSs pss_nil fun D σ H ⟨Z, ρ, M, E, Rd, G, h⟩ => G.next h
theorem ds_cons (h1 : DS X W st T) (h2 : DSs X W sts U) : DSs X W (st :: sts) (dSeq T U) :=
  wkSs (pss_cons h1 h2) fun D σ H ⟨Z, ρ, M, E, Rd, G, h⟩ => ⟨Z, ρ, M, { E with nx := fun ρ1 M1 => U E ρ1 M1 Rd }, Rd,
    ⟨G.at_, fun Z' H' M' σ' ρ' g a q => ⟨Z', ρ', M', E, Rd, G.step g a, q⟩, G.bk, G.ct, G.rt, G.r⟩, h⟩
theorem ds_one (h1 : DS X W st T) : DSs X W [st] T := pss_one h1
theorem ds_pass : DS X W (.Pass pos) dNext := wkS ps_pass fun D σ H ⟨Z, ρ, M, E, Rd, G, h⟩ => G.next h
theorem ds_expr (he : DE X W e Ta) (hs : swapsWith e none pos.line X.env = pure false := by rfl) : DS X W (.Expr e pos) (dDrop Ta) :=
  wkS (ps_expr he hs) fun D σ H ⟨Z, ρ, M, E, Rd, G, h⟩ => G.seq (rel1 := Rep X.K) h fun Z1 H1 M1 v x G1 _ _ q => G1.next q
theorem ds_ret (he : DE X W e Ta) : DS X W (.Return (some e) pos) (dRet Ta) :=
  wkS (ps_ret he) fun D σ H ⟨Z, ρ, M, E, Rd, G, h⟩ => G.seq (rel1 := Rep X.K) h fun Z1 H1 M1 v x G1 _ r q => G1.rt Z1 H1 M1 v x (Gr.refl _ _ _) G1.at_.toMemAt r q
theorem ds_retN : DS X W (.Return none pos) dRetN := wkS ps_retN fun D σ H ⟨Z, ρ, M, E, Rd, G, h⟩ => G.rt Z H M .non .non (Gr.refl _ _ _) G.at_.toMemAt .non h
theorem ds_if {ss ts : List Stmt} (hc : DT X W c A) (ha : DSs X W ss T) (hb : DSs X W ts U) : DS X W (.If c ss ts pos) (dIf A T U) :=
  wkS (ps_if hc ha hb) fun D σ H ⟨Z, ρ, M, E, Rd, G, h⟩ => G.seq (rel1 := eqR) h fun Z1 H1 M1 v x G1 _ r q => by
    cases (show v = x from r)
    by_cases hk : v = true
    · rw [if_pos hk] at q ⊢; exact ⟨_, _, _, _, _, G1, q⟩
    · rw [if_neg hk] at q ⊢; exact ⟨_, _, _, _, _, G1, q⟩
/-! targets -/
theorem dg_name (i : Nat) {x : Str} (hN : X.N.Nodup) (hi : X.N[i]? = some x := by rfl) (hx : Loc X.env.scope x := by first | exact Or.inl rfl | exact Or.inr rfl) (hf : X.fn x = true ∨ X.env.scope.names.lookup x = some .local := by first | exact .inl rfl | exact .inr rfl) : DG X [i] (.Name x pos) (gN i) :=
  wkG (pg_name hN hi hx hf) fun v σ H Q ⟨Z, ρ, M, d, Qd, a, r, h, k⟩ => k Z H M _ _ (Gr.refl _ _ _) (a.set i r) ⟨fun j hj => List.getElem?_set_ne fun z => hj (by rw [z]; exact List.mem_singleton_self _), List.length_set⟩ h
theorem dgs_nil : DGs X [] [] [] := wkGs pgs_nil fun vs σ H Q ⟨Z, ρ, M, ds, Qd, a, r, h, k⟩ => by
  cases r with
  | nil => exact ⟨rfl, k Z H M σ ρ (Gr.refl _ _ _) a (Off.refl σ) h⟩
  | cons _ _ => exact h.elim
theorem dgs_cons {S1 S2 : List Nat} (h1 : DG X S1 e g) (h2 : DGs X S2 es gs) (hs : (assignEach (e :: es) X.env).map (·.2) = assign e X.env :: (assignEach es X.env).map (·.2) := by rfl) : DGs X (S1 ++ S2) (e :: es) (g :: gs) :=
  wkGs (pgs_cons h1 h2 hs) fun vs σ H Q ⟨Z, ρ, M, ds, Qd, a, r, h, k⟩ => by
    cases r with
    | nil => exact h.elim
    | cons r rs =>
      exact ⟨_, _, rfl, Z, ρ, M, _, _, a, r, h, fun Z' H' M' σ' ρ' g a o q => ⟨Z', ρ', M', _, Qd, a, rs.mono g.zz, q, fun Z2 H2 M2 σ2 ρ2 g2 a2 o2 => k Z2 H2 M2 σ2 ρ2 (g.trans g2) a2 (o.trans o2)⟩⟩
theorem gSeq_len : ∀ {gs : List DTG} {ds : List D} {ρ : Env} {M : Mem} {Q : Env → Mem → Prop}, gSeq gs ds ρ M Q → (∀ g ∈ gs, ∀ d ρ M Q, g d ρ M Q → ∃ ρ1 M1, Q ρ1 M1) → ds.length = gs.length
  | [], [], _, _, _, _, _ => rfl
  | [], _ :: _, _, _, _, h, _ => h.elim
  | _ :: _, [], _, _, _, h, _ => h.elim
  | g :: gs, d :: ds, ρ, M, Q, h, hh => by
    obtain ⟨ρ1, M1, h1⟩ := hh g (List.mem_cons_self ..) d ρ M _ h
    exact congrArg Nat.succ (gSeq_len h1 fun g hg => hh g (List.mem_cons_of_mem _ hg))
/-- a target that stores and goes on -/
def Goes (g : DTG) : Prop := ∀ d ρ M Q, g d ρ M Q → ∃ ρ1 M1, Q ρ1 M1
theorem goes_name (i : Nat) : Goes (gN i) := fun d ρ M Q h => ⟨_, _, h⟩
theorem goes_seq : ∀ {gs : List DTG}, (∀ g ∈ gs, Goes g) → ∀ ds ρ M Q, gSeq gs ds ρ M Q → ∃ ρ1 M1, Q ρ1 M1
  | [], _, [], _, _, _, h => ⟨_, _, h⟩
  | [], _, _ :: _, _, _, _, h => h.elim
  | _ :: _, _, [], _, _, _, h => h.elim
  | g :: gs, hh, d :: ds, ρ, M, Q, h => by
    obtain ⟨ρ1, M1, h1⟩ := hh g (List.mem_cons_self ..) d ρ M _ h
    exact goes_seq (fun g hg => hh g (List.mem_cons_of_mem _ hg)) ds ρ1 M1 Q h1
theorem goes_tup {gs : List DTG} (h : ∀ g ∈ gs, Goes g) : Goes (gT gs) := fun d ρ M Q q => by
  cases d with
  | tup ds => exact goes_seq h ds ρ M Q q
  | _ => exact q.elim
theorem goes_nil : ∀ g ∈ ([] : List DTG), Goes g := fun g h => by cases h
theorem goes_cons {g : DTG} {gs : List DTG} (h : Goes g) (hs : ∀ g ∈ gs, Goes g) : ∀ k ∈ g :: gs, Goes k := fun k hk => by
  rcases List.mem_cons.mp hk with e | e
  · rw [e]; exact h
  · exact hs k e
theorem dg_tup {k : Nat} {S : List Nat} (hc : X.calm = true) (hgo : ∀ g ∈ gs, Goes g) (h : DGs X S es gs) (hn : (assignEach es X.env).length = gs.length := by rfl) (hst : (assignEach es X.env).findIdx? (·.1) = none := by rfl) : DG X S (.Tuple es k pos) (gT gs) :=
  wkG (pg_tup (n := gs.length) hc h hn hst) fun v σ H Q ⟨Z, ρ, M, d, Qd, a, r, h, k⟩ => by
    cases r with
    | tup hz rs => exact ⟨_, _, rfl, SqT.of (a.zh _ _ hz), by rw [rs.length]; exact gSeq_len h hgo, Z, ρ, M, _, Qd, a, rs, h, k⟩
    | _ => exact h.elim
theorem ds_asg {S : List Nat} (he : DE X W e Ta) (hg : DG X S tg g) (hs : swapsWithSole [tg] e pos.line X.env = pure false := by rfl) (hw : swappedStores [tg] e X.env = pure none := by rfl) (h1 : (assignEach [tg] X.env).map (·.2) = [assign tg X.env] := by rfl) :
    DS X W (.Assign [tg] e pos) (dAsg Ta g) :=
  wkS (ps_asg he hg hs hw h1) fun D σ H ⟨Z, ρ, M, E, Rd, G, h⟩ => G.seq (rel1 := Rep X.K) h fun Z1 H1 M1 v x G1 _ r q =>
    ⟨Z1, ρ, M1, x, E.nx, G1.at_, r, q, fun Z' H' M' σ' ρ' g a _ q => G1.nx Z' H' M' σ' ρ' g a q⟩
theorem ds_set (i : Nat) {x : Str} {pos' : Pos} (hN : X.N.Nodup) (he : DE X W e Ta) (hi : X.N[i]? = some x := by rfl) (hx : Loc X.env.scope x := by first | exact Or.inl rfl | exact Or.inr rfl) (hs : swapsWith e (some (.Name x pos')) pos.line X.env = pure false := by rfl)
    (hf : X.fn x = true ∨ X.env.scope.names.lookup x = some .local := by first | exact .inl rfl | exact .inr rfl) : DS X W (.Assign [.Name x pos'] e pos) (dAsg Ta (gN i)) :=
  wkS (ps_set hN hi hx he hs hf) fun D σ H ⟨Z, ρ, M, E, Rd, G, h⟩ => G.seq (rel1 := Rep X.K) h fun Z1 H1 M1 v x G1 _ r q =>
    G1.nx Z1 H1 M1 _ _ (Gr.refl _ _ _) (G1.at_.set i r) q
theorem ds_par2 {i j : Nat} {x y : Str} {px py pt : Pos} {kt k2 : Nat} {pt2 : Pos} (hc : X.calm = true) (hN : X.N.Nodup) (ha : DA X W [a, b] TA) (hi : X.N[i]? = some x := by rfl) (hj : X.N[j]? = some y := by rfl) (hij : i ≠ j := by decide)
    (hx : X.env.scope.names.lookup x = some .local := by rfl) (hy : X.env.scope.names.lookup y = some .local := by rfl) 
    (hw : swappedStores [.Tuple [.Name x px, .Name y py] kt pt] (.Tuple [a, b] k2 pt2) X.env = pure (some [x, y]) := by rfl)
    (hs : swapsWithSole [.Tuple [.Name x px, .Name y py] kt pt] (.Tuple [a, b] k2 pt2) pos.line X.env = pure false := by rfl) :
    DS X W (.Assign [.Tuple [.Name x px, .Name y py] kt pt] (.Tuple [a, b] k2 pt2) pos) (dPar2 i j TA) :=
  wkS (ps_par hc hN hi hj hij hx hy ha hw hs) fun D σ H ⟨Z, ρ, M, E, Rd, G, h⟩ => G.seq (rel1 := RepL X.K) h fun Z1 H1 M1 vs xs G1 _ r q => by
    cases r with
    | nil => exact q.elim
    | cons r1 t =>
      cases t with
      | nil => exact q.elim
      | cons r2 t =>
        cases t with
        | nil => exact ⟨_, _, rfl, G1.nx Z1 H1 M1 _ _ (Gr.refl _ _ _) ((G1.at_.set i r1).set j r2) q⟩
        | cons _ _ => exact q.elim
theorem ds_par3 {i j l : Nat} {x y z : Str} {px py pz pt : Pos} {kt k2 : Nat} {pt2 : Pos} (hc : X.calm = true) (hN : X.N.Nodup) (ha : DA X W [a, b, c] TA) (hi : X.N[i]? = some x := by rfl) (hj : X.N[j]? = some y := by rfl) (hl : X.N[l]? = some z := by rfl)
    (hij : i ≠ j := by decide) (hil : i ≠ l := by decide) (hjl : j ≠ l := by decide)
    (hx : X.env.scope.names.lookup x = some .local := by rfl) (hy : X.env.scope.names.lookup y = some .local := by rfl) (hz : X.env.scope.names.lookup z = some .local := by rfl) 
    (hw : swappedStores [.Tuple [.Name x px, .Name y py, .Name z pz] kt pt] (.Tuple [a, b, c] k2 pt2) X.env = pure (some [x, y, z]) := by rfl)
    (hs : swapsWithSole [.Tuple [.Name x px, .Name y py, .Name z pz] kt pt] (.Tuple [a, b, c] k2 pt2) pos.line X.env = pure false := by rfl) :
    DS X W (.Assign [.Tuple [.Name x px, .Name y py, .Name z pz] kt pt] (.Tuple [a, b, c] k2 pt2) pos) (dPar3 i j l TA) :=
  wkS (ps_par3 hc hN hi hj hl hij hil hjl hx hy hz ha hw hs) fun D σ H ⟨Z, ρ, M, E, Rd, G, h⟩ => G.seq (rel1 := RepL X.K) h fun Z1 H1 M1 vs xs G1 _ r q => by
    cases r with
    | nil => exact q.elim
    | cons r1 t =>
      cases t with
      | nil => exact q.elim
      | cons r2 t =>
        cases t with
        | nil => exact q.elim
        | cons r3 t =>
          cases t with
          | nil => exact ⟨_, _, _, rfl, G1.nx Z1 H1 M1 _ _ (Gr.refl _ _ _) (((G1.at_.set i r1).set j r2).set l r3) q⟩
          | cons _ _ => exact q.elim
/-! name op= e -/
def IpD (K : PySem.W.Frag) (t : TIp) (o : D → D → Mem → DQ → Prop) : Prop := OpD K t o
theorem ds_aug (i : Nat) {x : Str} {pos' : Pos} {op : Operator} {ti : TIp} {o : D → D → Mem → DQ → Prop} (hN : X.N.Nodup) (ho : PIp X op ti) (hd : OpD X.K ti o) (he : DE X W e Ta) (hi : X.N[i]? = some x := by rfl) (hx : Loc X.env.scope x := by first | exact Or.inl rfl | exact Or.inr rfl)
    (hf : X.fn x = true ∨ X.env.scope.names.lookup x = some .local := by first | exact .inl rfl | exact .inr rfl) : DS X W (.AugAssign (.Name x pos') op e pos) (dAug i o Ta) :=
  wkS (ps_aug hN hi hx he ho hf) fun D σ H ⟨Z, ρ, M, E, Rd, G, h⟩ => by
    unfold dAug at h
    cases q : nth ρ i with
    | none => rw [q] at h; exact h.elim
    | some d =>
      rw [q] at h
      obtain ⟨v, e1, rv⟩ := G.at_.sl i d ((nth_eq ρ i d).mp q)
      refine ⟨v, e1, G.seq (rel1 := Rep X.K) h fun Z1 H1 M1 w y G1 g1 ry h1 => ?_⟩
      refine hd (W := W) (σ := σ) (ρ := ρ) (Qd := fun z M2 => E.nx (put ρ i z) M2) (Rd := Rd) ⟨G1.at_, fun Z' H' M' z d g a r q => ?_, fun Z' H' M' ex cls dd g a => G1.r Z' H' M' σ ρ ex cls dd g a⟩ (rv.mono g1.zz) ry h1
      exact G1.nx Z' H' M' _ _ g (a.set i r) q
/-! raise -/
theorem ds_raise {x m : Str} {j : Nat} {p1 p2 p3 : Pos} {C : Addr} {bm : List Value} (hc : X.calm = true) (tk : Takes X W) (hC : C = He.ga X.K x) (q : PySem.W.excIn X.K C bm "ValueError.__new__" = true) (F : ExcBaseFacts "ValueError" "ValueError.__new__" "ValueError.__init__" bm)
    (gC : X.mg x = some (.ref C)) (kC : PySem.W.keepIn X.K (.ref C) = true) (r : Raises X (.ref C)) (hg : Gl X x := by rfl) (hd : (x == ("__debug__" : Str)) = false := by decide) :
    DS X W (.Raise (some (.Call (.Name x p1) [.Constant (.str m) j p2] [] p3)) none pos) (dRaise x) :=
  wkS (ps_raise hc tk (pmk_own F q gC kC r hg hd)) fun D σ H ⟨Z, ρ, M, E, Rd, G, h⟩ => G.r Z H M σ ρ _ _ _ (Gr.refl _ _ _) G.at_ ⟨by rw [hC], rfl⟩ h
/-! ### loops -/
theorem ex_upd {Z Z' : Hp} {p : Addr} {o : HO} (e : Ex Z Z') : Ex (upd Z p o) (upd Z' p o) := fun a u h => by
  by_cases ha : a = p
  · rw [ha, upd_same] at h ⊢; exact h
  · rw [upd_ne ha] at h ⊢; exact e a u h
theorem ds_for {S : List Nat} {iter : Expr} {body : List Stmt} (hp : PassesOwn (model X.prog X.w) X.A X.env X.xe) (hc : X.calm = true) (hi : DI X W tg iter TA) (hg : DG X S tg g) (hb : DSs X W body T)
    (hs : ∀ x, foldedSetIterable iter X.env x = pure x := by intro _; rfl) : DS X W (.For tg iter body [] pos) (dFor TA g T) :=
  wkS (ps_for hp hc hi hg hb hs) fun D σ H ⟨Z, ρ, M, E, Rd, G, h⟩ => G.seq (rel1 := fun Z J ds => Walk X.K Z J ds) h fun Z1 H1 M1 J ds G1 g1 wk q => by
    refine ⟨fun i m σ2 H2 => m = ds.length - i ∧ i ≤ ds.length ∧ ∃ Z2 ρ2 M2, GoS X.K W σ2 ρ2 Z2 H2 M2 E Rd D ∧ Ex Z1 Z2 ∧ dLoop g T E Rd (ds.drop i) ρ2 M2, ⟨ds.length, by simp, Nat.zero_le _, Z1, ρ, M1, G1, Ex.refl _, q⟩, ?_⟩
    rintro i m σ2 H2 ⟨rfl, hi, Z2, ρ2, M2, G2, e2, q2⟩
    by_cases hl : i < ds.length
    · refine .inr ⟨wk.go i H2 (e2.trans G2.at_.zh) hl, fun σ' H' => ∃ Z3 ρ3 M3, GoS X.K W σ' ρ3 Z3 H' M3 E Rd D ∧ Ex Z1 Z3 ∧ dLoop g T E Rd (ds.drop (i + 1)) ρ3 M3, fun σ' H' h' => ⟨ds.length - (i + 1), by omega, rfl, hl, h'⟩, fun x H' y => ?_⟩
      rw [List.drop_eq_getElem_cons hl] at q2
      have fin : ∀ {Z' H'}, Gr Z2 H2 M2 Z' H' M2 → At X.K Z' H' σ2 ρ2 M2 → Rep X.K Z' x ds[i] → lG X.K S g x σ2 H' fun σ3 H3 => lS X.K W T { D with nx := fun σ' H' => ∃ Z3 ρ3 M3, GoS X.K W σ' ρ3 Z3 H' M3 E Rd D ∧ Ex Z1 Z3 ∧ dLoop g T E Rd (ds.drop (i + 1)) ρ3 M3, ct := fun σ' H' => ∃ Z3 ρ3 M3, GoS X.K W σ' ρ3 Z3 H' M3 E Rd D ∧ Ex Z1 Z3 ∧ dLoop g T E Rd (ds.drop (i + 1)) ρ3 M3, bk := D.nx } σ3 H3 := fun {Z' H'} ga aa rr => by
        refine ⟨Z', ρ2, M2, ds[i], _, aa, rr, q2, fun Z3 H3 M3 σ3 ρ3 g3 a3 _ q3 => ?_⟩
        have ex3 : Ex Z1 Z3 := (e2.trans ga.zz).trans g3.zz
        have G3 := G2.step (ga.trans g3) a3
        exact ⟨Z3, ρ3, M3, { nx := dLoop g T E Rd (ds.drop (i + 1)), rt := E.rt, bk := E.nx, ct := dLoop g T E Rd (ds.drop (i + 1)) }, Rd, ⟨a3, fun Z4 H4 M4 σ4 ρ4 g4 a4 q4 => ⟨Z4, ρ4, M4, G3.step g4 a4, ex3.trans g4.zz, q4⟩, G3.nx, fun Z4 H4 M4 σ4 ρ4 g4 a4 q4 => ⟨Z4, ρ4, M4, G3.step g4 a4, ex3.trans g4.zz, q4⟩, G3.rt, G3.r⟩, q3⟩
      rcases wk.yld i H2 x H' ds[i] (e2.trans G2.at_.zh) y (by simp [hl]) with ⟨e, r⟩ | ⟨p, o, hp, e, r⟩
      · subst e; exact fin (Gr.refl _ _ _) G2.at_ (r.mono e2)
      · subst e
        obtain ⟨ga, aa⟩ := G2.at_.new (o := o) hp
        exact fin ga aa (r.mono (ex_upd e2))
    · have e : i = ds.length := by omega
      subst e
      rw [List.drop_length] at q2
      exact .inl ⟨wk.stop H2 (e2.trans G2.at_.zh), G2.next q2⟩
theorem ds_while {body : List Stmt} (hp : PassesOwn (model X.prog X.w) X.A X.env X.xe) (hc : DT X W c A) (hb : DSs X W body T) : DS X W (.While c body [] pos) (dWhile A T) :=
  wkS (ps_while hp hc hb) fun D σ H ⟨Z, ρ, M, E, Rd, G, n, h⟩ => by
    refine ⟨fun m σ2 H2 => ∃ Z2 ρ2 M2, GoS X.K W σ2 ρ2 Z2 H2 M2 E Rd D ∧ dWh A T E Rd m ρ2 M2, ⟨n, Z, ρ, M, G, h⟩, ?_⟩
    rintro m σ2 H2 ⟨Z2, ρ2, M2, G2, q2⟩
    cases m with
    | zero => exact q2.elim
    | succ m =>
      refine G2.seq (rel1 := eqR) q2 fun Z3 H3 M3 b b' G3 g3 eb q3 => ?_
      cases (show b = b' from eb)
      by_cases hk : b = true
      · rw [if_pos hk] at q3 ⊢
        exact ⟨fun σ' H' => ∃ Z2 ρ2 M2, GoS X.K W σ' ρ2 Z2 H' M2 E Rd D ∧ dWh A T E Rd m ρ2 M2, fun σ' H' h' => ⟨m, Nat.lt_succ_self m, h'⟩,
          Z3, ρ2, M3, { nx := dWh A T E Rd m, rt := E.rt, bk := E.nx, ct := dWh A T E Rd m }, Rd, ⟨G3.at_, fun Z4 H4 M4 σ4 ρ4 g4 a4 q4 => ⟨Z4, ρ4, M4, G3.step g4 a4, q4⟩, G3.nx, fun Z4 H4 M4 σ4 ρ4 g4 a4 q4 => ⟨Z4, ρ4, M4, G3.step g4 a4, q4⟩, G3.rt, G3.r⟩, q3⟩
      · rw [if_neg hk] at q3 ⊢; exact G3.next q3
end

/-! ### comprehensions -/
theorem wipe_at (σ : St) : ∀ (vs : List Nat) (i : Nat), (wipe σ vs)[i]? = if i ∈ vs then (if i < σ.length then some none else none) else σ[i]?
  | [], i => by simp [wipe]
  | v :: vs, i => by
    unfold wipe
    by_cases h : v = i
    · subst h
      by_cases hl : v < σ.length
      · rw [List.getElem?_set_self (by rw [wipe_length]; exact hl), if_pos List.mem_cons_self, if_pos hl]
      · rw [List.getElem?_eq_none (by rw [List.length_set, wipe_length]; omega), if_pos List.mem_cons_self, if_neg hl]
    · rw [List.getElem?_set_ne h, wipe_at σ vs i]
      by_cases hm : i ∈ vs
      · rw [if_pos hm, if_pos (List.mem_cons_of_mem _ hm)]
      · rw [if_neg hm, if_neg fun z => (List.mem_cons.mp z).elim (fun e => h e.symm) hm]
theorem wipe_off {σ σ' : St} {S vs : List Nat} (h : Off S σ σ') (hs : ∀ i ∈ S, i ∈ vs) : wipe σ' vs = wipe σ vs := by
  apply List.ext_getElem?
  intro i
  rw [wipe_at, wipe_at, h.len]
  by_cases hm : i ∈ vs
  · rw [if_pos hm, if_pos hm]
  · rw [if_neg hm, if_neg hm, h.off i fun z => hm (hs i z)]
theorem wipe_wipe (σ : St) (vs : List Nat) : wipe (wipe σ vs) vs = wipe σ vs := by
  apply List.ext_getElem?
  intro i
  rw [wipe_at, wipe_at, wipe_length]
  by_cases hm : i ∈ vs
  · rw [if_pos hm, if_pos hm]
  · rw [if_neg hm, if_neg hm]
theorem dels_len (ρ : Env) : ∀ vs : List Nat, (dels ρ vs).length = ρ.length
  | [] => rfl
  | v :: vs => by
    show (del (dels ρ vs) v).length = _
    rw [del_eq, List.length_set, dels_len ρ vs]
theorem dels_at (ρ : Env) (d : D) : ∀ (vs : List Nat) (i : Nat), (dels ρ vs)[i]? = some (some d) → ρ[i]? = some (some d) ∧ i ∉ vs
  | [], i, h => ⟨h, by simp⟩
  | v :: vs, i, h => by
    have h1 : (del (dels ρ vs) v)[i]? = some (some d) := h
    rw [del_eq] at h1
    by_cases e : v = i
    · subst e
      by_cases hl : v < (dels ρ vs).length
      · rw [List.getElem?_set_self hl] at h1; cases h1
      · rw [List.getElem?_eq_none (by simpa using hl)] at h1; cases h1
    · rw [List.getElem?_set_ne e] at h1
      obtain ⟨h2, h3⟩ := dels_at ρ d vs i h1
      exact ⟨h2, fun z => (List.mem_cons.mp z).elim (fun q => e q.symm) h3⟩
section
variable {K : PySem.W.Frag} {σ : St} {ρ : Env} {Z H Z1 H1 : Hp} {M M1 : Mem}
theorem At.wipe (a : At K Z H σ ρ M) (vs : List Nat) : At K Z H (wipe σ vs) (dels ρ vs) M :=
  ⟨a.toMemAt, fun i d h => by
    obtain ⟨h1, h2⟩ := dels_at ρ d vs i h
    obtain ⟨v, e, r⟩ := a.sl i d h1
    exact ⟨v, by rw [wipe_at, if_neg h2]; exact e, r⟩, by rw [dels_len, wipe_length]; exact a.ln⟩
theorem At.later (a : At K Z H σ ρ M) (e : Ex Z Z1) (m : MemAt K Z1 H1 M1) : At K Z1 H1 σ ρ M1 :=
  ⟨m, fun i d h => let ⟨v, e1, r⟩ := a.sl i d h; ⟨v, e1, r.mono e⟩, a.ln⟩
/-- an object p that nobody speaks of is written -/
theorem MemAt.loose (a : MemAt K Z H M) {p : Addr} {o : HO} (hz : Z p = none) (hk : p ∉ keys M) : MemAt K Z (upd H p o) M :=
  ⟨fun b u e => by rw [upd_ne fun z => by rw [z, hz] at e; cases e]; exact a.zh b u e, fun q u hq => ⟨(a.mem q u hq).1, (a.mem q u hq).2.mono (Ex.refl Z) (by rw [upd_ne fun z => hk (by rw [← z]; exact List.mem_map.mpr ⟨(q, u), hq, rfl⟩)])⟩, a.nd⟩
theorem Gr.loose (g : Gr Z H M Z1 H1 M1) {p : Addr} {o : HO} (h : H p = none) : Gr Z H M Z1 (upd H1 p o) M1 :=
  ⟨g.zz, g.new, fun b u e hb => by rw [upd_ne (ne_of_none e h)]; exact g.keep b u e hb, g.kk⟩
/-- .. and it will never change again -/
theorem MemAt.freeze (a : MemAt K Z H M) {p : Addr} {o : HO} (hz : Z p = none) (hk : p ∉ keys M) (ho : H p = some o) : MemAt K (upd Z p o) H M :=
  ⟨fun b u e => by
    by_cases hb : b = p
    · rw [hb, upd_same] at e; rw [hb, ho]; exact e
    · rw [upd_ne hb] at e; exact a.zh b u e, fun q u hq => by
    have nq : q ≠ p := fun z => hk (by rw [← z]; exact List.mem_map.mpr ⟨(q, u), hq, rfl⟩)
    exact ⟨by rw [upd_ne nq]; exact (a.mem q u hq).1, (a.mem q u hq).2.mono (Ex.new hz) rfl⟩, a.nd⟩
theorem Gr.pass (g : Gr Z H M Z1 H1 M1) {p : Addr} {xs : List V} (h : H p = some (.lst xs)) (hk : p ∉ keys M) (hz : Z p = none) : H1 p = some (.lst xs) ∧ p ∉ keys M1 ∧ Z1 p = none := by
  refine ⟨g.keep p _ h hk, fun z => (g.kk p z).elim hk (fun q => by rw [h] at q; cases q), ?_⟩
  cases q : Z1 p with
  | none => rfl
  | some u => rcases g.new p u q with z | z | z | ⟨_, z⟩
              · rw [hz] at z; cases z
              · rw [h] at z; cases z
              · exact (hk z).elim
              · rw [h] at z; cases z
end
section
variable {X : Cx} {W : WX} {elt tg iter : Expr} {ifs : List Expr} {scope : Scope} {own : List (Str × Nat)} {pos : Pos} {TA : DTA} {g : DTG} {tt : DTT} {te : DTE} {S : List Nat}
abbrev W0 : WX := fun _ _ _ _ => False
theorem lc_ok {K : PySem.W.Frag} {vs : List Nat} (hS : ∀ i ∈ S, i ∈ vs) {σ : St} {H : Hp} {Q : VK} (h : lE K W (dLc vs TA g tt te) σ H Q) : tLc (lI K W TA) (lG K S g) (lT K W0 tt) (lE K W0 te) vs σ H Q := by
  obtain ⟨Z, ρ, M, Qd, Rd, G, h⟩ := h
  refine G.seq (rel1 := fun Z J ds => Walk K Z J ds) h fun Z1 H1 M1 J ds G1 e1 wk q => ?_
  obtain ⟨hlen, q⟩ := q
  intro p hp
  have hz1 : Z1 p = none := G1.at_.zh.free hp
  have hk1 : p ∉ keys M1 := (G1.at_.newM (o := .lst []) (m := .lst []) hp ⟨[], upd_same, .nil⟩).2.2
  refine ⟨fun i m H2 => m = ds.length - i ∧ i ≤ ds.length ∧ ∃ Z2 M2 acc xs, Gr Z1 H1 M1 Z2 H2 M2 ∧ MemAt K Z2 H2 M2 ∧ H2 p = some (.lst xs) ∧ RepL K Z2 xs acc ∧ Z2 p = none ∧ p ∉ keys M2 ∧ acc.length ≤ i ∧ dLcL g tt te (dels ρ vs) Qd (ds.drop i) acc M2,
    ⟨ds.length, by simp, Nat.zero_le _, Z1, M1, [], [], (Gr.refl Z1 H1 M1).loose hp, G1.at_.toMemAt.loose hz1 hk1, upd_same, .nil, hz1, hk1, Nat.le_refl _, q⟩, ?_⟩
  rintro i m H2 ⟨rfl, hi, Z2, M2, acc, xs, g2, m2, hp2, rs, hz2, hk2, hacc, q2⟩
  have a2 : At K Z2 H2 (wipe σ vs) (dels ρ vs) M2 := (G1.at_.wipe vs).later g2.zz m2
  by_cases hl : i < ds.length
  · refine .inr ⟨wk.go i H2 (g2.zz.trans m2.zh) hl, fun H3 => ∃ Z2 M2 acc xs, Gr Z1 H1 M1 Z2 H3 M2 ∧ MemAt K Z2 H3 M2 ∧ H3 p = some (.lst xs) ∧ RepL K Z2 xs acc ∧ Z2 p = none ∧ p ∉ keys M2 ∧ acc.length ≤ i + 1 ∧ dLcL g tt te (dels ρ vs) Qd (ds.drop (i + 1)) acc M2, fun H' h' => ⟨ds.length - (i + 1), by omega, rfl, hl, h'⟩, fun x H' y => ?_⟩
    rw [List.drop_eq_getElem_cons hl] at q2
    have fin : ∀ {Z' H'}, Gr Z2 H2 M2 Z' H' M2 → At K Z' H' (wipe σ vs) (dels ρ vs) M2 → Rep K Z' x ds[i] → lG K S g x (wipe σ vs) H' fun σ3 H3 => wipe σ3 vs = wipe σ vs ∧ lT K W0 tt σ3 H3 fun b H4 =>
        if b = true then lE K W0 te σ3 H4 fun y H5 => ∃ acc, H5 p = some (.lst acc) ∧ acc.length < sizeLine ∧ (∃ Z2 M2 acc1 xs, Gr Z1 H1 M1 Z2 (upd H5 p (.lst (acc ++ [y]))) M2 ∧ MemAt K Z2 (upd H5 p (.lst (acc ++ [y]))) M2 ∧ (upd H5 p (.lst (acc ++ [y]))) p = some (.lst xs) ∧ RepL K Z2 xs acc1 ∧ Z2 p = none ∧ p ∉ keys M2 ∧ acc1.length ≤ i + 1 ∧ dLcL g tt te (dels ρ vs) Qd (ds.drop (i + 1)) acc1 M2)
        else ∃ Z2 M2 acc xs, Gr Z1 H1 M1 Z2 H4 M2 ∧ MemAt K Z2 H4 M2 ∧ H4 p = some (.lst xs) ∧ RepL K Z2 xs acc ∧ Z2 p = none ∧ p ∉ keys M2 ∧ acc.length ≤ i + 1 ∧ dLcL g tt te (dels ρ vs) Qd (ds.drop (i + 1)) acc M2 := fun {Z' H'} ga aa rr => by
      refine ⟨Z', dels ρ vs, M2, ds[i], _, aa, rr, q2, fun Z3 H3 M3 σ3 ρ3 g3 a3 of3 q3 => ⟨(wipe_off of3 hS).trans (wipe_wipe σ vs), ?_⟩⟩
      refine ⟨Z3, ρ3, M3, _, noR, ⟨a3, fun Z4 H4 M4 b b' g4 a4 eb q4 => ?_, fun _ _ _ _ _ _ _ _ _ z => z.elim⟩, q3⟩
      cases (show b = b' from eb)
      have gg4 := (ga.trans g3).trans g4
      by_cases hb : b = true
      · rw [if_pos hb] at q4 ⊢
        refine ⟨Z4, ρ3, M4, _, noR, ⟨a4, fun Z5 H5 M5 y d g5 a5 ry q5 => ?_, fun _ _ _ _ _ _ _ _ _ z => z.elim⟩, q4⟩
        have gg := gg4.trans g5
        obtain ⟨p1, p2, p3⟩ := gg.pass hp2 hk2 hz2
        refine ⟨xs, p1, ?_, Z5, M5, acc ++ [d], xs ++ [y], (g2.trans gg).loose hp, a5.toMemAt.loose p3 p2, upd_same, (rs.mono gg.zz).append (.cons ry .nil), p3, p2, by rw [List.length_append]; exact Nat.succ_le_succ hacc, q5⟩
        have := rs.length
        have h5 : (100000 : Nat) < sizeLine := by decide
        omega
      · rw [if_neg hb] at q4 ⊢
        obtain ⟨p1, p2, p3⟩ := gg4.pass hp2 hk2 hz2
        exact ⟨Z4, M4, acc, xs, g2.trans gg4, a4.toMemAt, p1, rs.mono gg4.zz, p3, p2, Nat.le_succ_of_le hacc, q4⟩
    rcases wk.yld i H2 x H' ds[i] (g2.zz.trans m2.zh) y (by simp [hl]) with ⟨e, r⟩ | ⟨t, o, ht, e, r⟩
    · subst e; exact fin (Gr.refl _ _ _) a2 (r.mono g2.zz)
    · subst e
      obtain ⟨ga, aa⟩ := a2.new (o := o) ht
      exact fin ga aa (r.mono (ex_upd g2.zz))
  · have e : i = ds.length := by omega
    subst e
    rw [List.drop_length] at q2
    refine .inl ⟨wk.stop H2 (g2.zz.trans m2.zh), ?_⟩
    refine G1.k (upd Z2 p (.lst xs)) H2 M2 (.ref p) (.lst acc) ⟨g2.zz.trans (Ex.new hz2), fun b u e => ?_, g2.keep, g2.kk⟩ (G1.at_.later (g2.zz.trans (Ex.new hz2)) (m2.freeze hz2 hk2 hp2)) (.lst upd_same (rs.mono (Ex.new hz2))) q2
    by_cases hb : b = p
    · rw [hb]; exact .inr (.inl hp)
    · rw [upd_ne hb] at e; exact g2.new b u e
theorem de_lc (hc : X.calm = true) (hN : X.N.Nodup) (hi : DI X W tg iter TA) (ok : BlkOk X.N X.env.scope scope own) (hS : ∀ i ∈ S, i ∈ own.map (·.2))
    (hg : ∀ (s : Shared) (H : Hp) (C : Addr) (cl : List (Str × Addr)) (fp : List Addr), DG (X.blk s H scope (compEnvC scope cl C X.env) fp) S tg g)
    (ht : ∀ (s : Shared) (H : Hp) (C : Addr) (cl : List (Str × Addr)) (fp : List Addr), PTs (X.blk s H scope (compEnvC scope cl C X.env) fp) ifs (lT X.K W0 tt))
    (he : ∀ (s : Shared) (H : Hp) (C : Addr) (cl : List (Str × Addr)) (fp : List Addr), DE (X.blk s H scope (compEnvC scope cl C X.env) fp) W0 elt te) (hs : ∀ x, foldedSetIterable iter X.env x = pure x := by intro _; rfl) :
    DE X W (.ListComp elt [⟨tg, iter, ifs, 0⟩] scope pos) (dLc (own.map (·.2)) TA g tt te) :=
  wkE (pe_lc hc hN hi ok hg ht he hs) fun σ H Q h => lc_ok hS h
theorem ds_setLc (i : Nat) {y : Str} {py : Pos} {spos : Pos} (hc : X.calm = true) (hN : X.N.Nodup) (hi : DI X W tg iter TA) (ok : BlkOk X.N X.env.scope scope own) (hS : ∀ i ∈ S, i ∈ own.map (·.2))
    (hg : ∀ (s : Shared) (H : Hp) (C : Addr) (cl : List (Str × Addr)) (fp : List Addr), DG (X.blk s H scope (compEnvC scope cl C X.env) fp) S tg g)
    (ht : ∀ (s : Shared) (H : Hp) (C : Addr) (cl : List (Str × Addr)) (fp : List Addr), PTs (X.blk s H scope (compEnvC scope cl C X.env) fp) ifs (lT X.K W0 tt))
    (he : ∀ (s : Shared) (H : Hp) (C : Addr) (cl : List (Str × Addr)) (fp : List Addr), DE (X.blk s H scope (compEnvC scope cl C X.env) fp) W0 elt te)
    (hsw : swapsWith (.ListComp elt [⟨tg, iter, ifs, 0⟩] scope pos) (some (.Name y py)) spos.line X.env = pure true) (hy : X.N[i]? = some y := by rfl) (hyl : X.env.scope.names.lookup y = some .local := by rfl) (hs : ∀ x, foldedSetIterable iter X.env x = pure x := by intro _; rfl) :
    DS X W (.Assign [.Name y py] (.ListComp elt [⟨tg, iter, ifs, 0⟩] scope pos) spos) (dAsg (dLc (own.map (·.2)) TA g tt te) (gN i)) :=
  wkS (ps_setLc hc hN hy hyl hsw hi ok hg ht he hs) fun D σ H ⟨Z, ρ, M, E, Rd, G, h⟩ =>
    lc_ok hS ⟨Z, ρ, M, fun x M1 => gN i x ρ M1 E.nx, Rd, ⟨G.at_, fun Z' H' M' v d g a r q => G.nx Z' H' M' _ _ g (a.set i r) q, fun Z' H' M' ex cls dd g a => G.r Z' H' M' σ ρ ex cls dd g a⟩, h⟩
theorem dts_nil : PTs X [] (lT X.K W dYes) := ⟨fun pins s σ H Q I ⟨Z, ρ, M, Qd, Rd, G, h⟩ => pts_nil.run pins s σ H Q I (G.val (rel := eqR) rfl h)⟩
theorem dts_one {c : Expr} {A : DTT} (h : DT X W c A) : PTs X [c] (lT X.K W A) := pts_one h
end
end Dl
namespace Dl
open PySem PySem.Spec PyProof.Rows L2
/-! # Defs and their calls -/
def startN (n : Nat) (ds : List D) : Dl.Env := ds.map some ++ List.replicate (n - ds.length) none
/-- what a def promises, over the heap -/
def spOf (K : PySem.W.Frag) (S : DSp) : Sp := fun vs H Q E => ∃ Z M ds Qd Rd, MemAt K Z H M ∧ RepL K Z vs ds ∧ S ds M Qd Rd ∧
  (∀ Z' H' M' v d, Gr Z H M Z' H' M' → MemAt K Z' H' M' → Rep K Z' v d → Qd d M' → Q v H') ∧ ∀ Z' H' M' ex cls dd, Gr Z H M Z' H' M' → MemAt K Z' H' M' → ExR K Z' H' ex cls dd → Rd ex M' → E cls dd H'
abbrev FnD (P : Program) (w : World) (K : PySem.W.Frag) (mg : Str → Option Value) (base : Heap) (k : Nat) (f : Addr) (fd : FuncData) (ps : List Str) (S : DSp) : Prop := FnOk P w K mg base (L2.CX P w) k f fd ps (spOf K S)
/-- what a def wishes of exceptions -/
abbrev WD (E : XK) : WX := fun cls d _ H => E cls d H
/-- what is left behind and seen no more may be forgotten -/
def Fg (M : Mem) (P : Mem → Prop) : Prop := ∃ M' : Mem, M'.Sublist M ∧ P M'
/-- a def's contract is kept by its transformer (n: its names) -/
def Keeps (S : DSp) (n : Nat) (T : DTS) : Prop := ∀ ds M Q R, S ds M Q R → T { nx := fun _ M' => Fg M' (Q .non), rt := fun d M' => Fg M' (Q d) } (startN n ds) M fun ex _ M' => Fg M' (R ex)
theorem MemAt.sub {K : PySem.W.Frag} {Z H : Hp} {M M' : Mem} (m : MemAt K Z H M) (h : M'.Sublist M) : MemAt K Z H M' := ⟨m.zh, fun p o q => m.mem p o (h.subset q), m.nd.sublist (h.map _)⟩
theorem Gr.sub {Z H Z1 H1 : Hp} {M M1 M2 : Mem} (g : Gr Z H M Z1 H1 M1) (h : M2.Sublist M1) : Gr Z H M Z1 H1 M2 := ⟨g.zz, g.new, g.keep, fun p q => g.kk p ((h.map _).subset q)⟩
theorem at_start {K : PySem.W.Frag} {Z H : Hp} {M : Mem} {vs : List V} {ds : List D} (N : List Str) (m : MemAt K Z H M) (r : RepL K Z vs ds) : At K Z H (L2.start N vs) (startN N.length ds) M := by
  have hl := r.length
  refine ⟨m, fun i d h => ?_, ?_⟩
  · unfold startN at h
    unfold L2.start
    by_cases hi : i < ds.length
    · rw [List.getElem?_append_left (by simpa using hi), List.getElem?_map] at h
      obtain ⟨v, e, q⟩ := r.get (i := i) (d := d) (by
        cases z : ds[i]? with
        | none => rw [z] at h; cases h
        | some u => rw [z] at h; exact congrArg some (Option.some.inj (Option.some.inj h)))
      exact ⟨v, by rw [List.getElem?_append_left (by rw [List.length_map]; omega), List.getElem?_map, e] <;> rfl, q⟩
    · rw [List.getElem?_append_right (by simpa using Nat.le_of_not_lt hi), List.getElem?_replicate] at h
      split at h <;> cases h
  · unfold startN L2.start
    rw [List.length_append, List.length_append, List.length_map, List.length_map, List.length_replicate, List.length_replicate, hl]
section
variable {P : Program} {w : World} {K : PySem.W.Frag} {mg : Str → Option Value} {base : Heap} {x qual : Str} {params : Arguments} {body : List Stmt} {scope : Scope} {f : Addr} {fd : FuncData} {N ps : List Str} {k : Nat} {S : DSp} {T : DTS}
/-- THE RULE for a def -/
theorem fnD (F : FunD K x qual params body scope [] [] f fd) (Sc : FnScope N ps scope) (hl : ∀ ds M Q R, S ds M Q R → ds.length = ps.length)
    (hb : ∀ (cdv : Value) (A : Around) (outer : List PySem.Env) (s : Shared) (H : Hp) (E : XK), Room k (A.deeper (envOfC qual scope s.heap.objs.size f cdv)) → DSs (cxOf (L2.CX P w) P w K mg base N qual scope f cdv A outer s H E) (WD E) body T)
    (hp : Keeps S N.length T) : FnD P w K mg base (k + 1) f fd ps S := by
  refine F.ok Sc (fun vs H Q E h => ?_) (fun cdv A outer s H vs Q E hr h => ⟨_, hb cdv A outer s H E hr, ?_⟩)
  · obtain ⟨Z, M, ds, Qd, Rd, m, r, q, _⟩ := h
    rw [r.length]; exact hl ds M Qd Rd q
  · obtain ⟨Z, M, ds, Qd, Rd, m, r, q, k1, k2⟩ := h
    exact ⟨Z, startN N.length ds, M, { nx := fun _ M' => Fg M' (Qd .non), rt := fun d M' => Fg M' (Qd d) }, fun ex _ M' => Fg M' (Rd ex), ⟨at_start N m r, fun Z' H' M' σ' ρ' g a ⟨M2, hs, q⟩ => k1 Z' H' M2 .non .non (g.sub hs) (a.toMemAt.sub hs) .non q, fun _ _ _ _ _ _ _ z => False.elim z, fun _ _ _ _ _ _ _ z => False.elim z, fun Z' H' M' v d g a r ⟨M2, hs, q⟩ => k1 Z' H' M2 v d (g.sub hs) (a.sub hs) r q,
      fun Z' H' M' σ' ρ' ex cls dd g a e ⟨M2, hs, q⟩ => k2 Z' H' M2 ex cls dd (g.sub hs) (a.toMemAt.sub hs) e q⟩, hp ds M Qd Rd q⟩
theorem FnOk.weak {S S' : DSp} (F : FnD P w K mg base k f fd ps S) (h : ∀ ds M Q R, S' ds M Q R → S ds M Q R) : FnD P w K mg base k f fd ps S' :=
  FnOk.imp F fun vs H Q E ⟨Z, M, ds, Qd, Rd, m, r, q, k1, k2⟩ => ⟨Z, M, ds, Qd, Rd, m, r, h _ _ _ _ q, k1, k2⟩
end
section
variable {X : Cx} {W : WX} {k : Nat} {f : Addr} {fd : FuncData} {ps : List Str} {S : DSp} {x : Str} {p pos : Pos} {e : Expr} {es : List Expr} {TA : DTA}
theorem call_ok {K : PySem.W.Frag} {t : L2.TA} (w : ∀ σ H Q, lA K W TA σ H Q → t σ H Q) {σ : L2.St} {H : Hp} {Q : VK} (h : lE K W (dCall S TA) σ H Q) : tCallS (spOf K S) (WE W) t σ H Q := by
  obtain ⟨Z, ρ, M, Qd, Rd, G, h⟩ := h
  refine w _ _ _ (G.seq (rel1 := RepL K) h fun Z1 H1 M1 vs xs G1 _ rs h1 => ?_)
  exact ⟨Z1, M1, xs, _, _, G1.at_.toMemAt, rs, h1, fun Z' H' M' v d g m r q => G1.k Z' H' M' v d g (G1.at_.later g.zz m) r q, fun Z' H' M' ex cls dd g m r q => G1.r Z' H' M' ex cls dd g (G1.at_.later g.zz m) r q⟩
theorem de_call (F : FnD X.prog X.w X.K X.mg X.base k f fd ps S) (hr : Room k X.A) (hm : X.mg x = some (.ref f)) (hk : PySem.W.keepIn X.K (.ref f) = true) (hb : L2.Binds X.K fd ps []) (tk : Takes X W) (ha : DA X W (e :: es) TA)
    (hg : Gl X x := by rfl) (hdb : (x == ("__debug__" : Str)) = false := by decide) (he : starEach (e :: es) X.env = (false, eval e X.env) :: starEach es X.env := by rfl) (hpl : (backTo pos (starEach es X.env)).any (·.1) = false := by rfl) :
    DE X W (.Call (.Name x p) (e :: es) [] pos) (dCall S TA) :=
  wkE (pe_callS F hr hg hm hk hb (passAt tk) ha hdb he hpl) fun σ H Q h => call_ok (fun _ _ _ q => q) h
theorem pe_call0S {CX : CXT} {sp : Sp} {E : L2.St → XK} (F : FnOk X.prog X.w X.K X.mg X.base CX k f fd ps sp) (hr : Room k X.A) (hg : Gl X x) (hm : X.mg x = some (.ref f)) (hk : PySem.W.keepIn X.K (.ref f) = true) (hb : L2.Binds X.K fd ps []) (hx : ∀ σ, PassesAt CX X σ (E σ))
    (hdb : (x == ("__debug__" : Str)) = false := by decide) : PE X (.Call (.Name x p) [] [] pos) (tCallS sp E tNil) := by
  refine ⟨fun pins s σ H Q I h => ?_⟩
  refine wpAny_Call_Name_kw (ld_glob I hg hm ?_ hdb)
  exact PySem.W.callWith_K0 I.kIn hk (run_fnS (us := []) F hr hb (hx σ) I .nil h)
theorem de_call0 (F : FnD X.prog X.w X.K X.mg X.base k f fd ps S) (hr : Room k X.A) (hm : X.mg x = some (.ref f)) (hk : PySem.W.keepIn X.K (.ref f) = true) (hb : L2.Binds X.K fd ps []) (tk : Takes X W)
    (hg : Gl X x := by rfl) (hdb : (x == ("__debug__" : Str)) = false := by decide) : DE X W (.Call (.Name x p) [] [] pos) (dCall S dNil) :=
  wkE (pe_call0S F hr hg hm hk hb (passAt tk) hdb) fun σ H Q h => call_ok (TA := dNil) (t := tNil) (fun σ H Q h => by
    obtain ⟨Z, ρ, M, Qd, Rd, G, h⟩ := h
    exact G.val (rel := RepL X.K) .nil h) h
/-- a built-in by its name -/
theorem cb_ok {K : PySem.W.Frag} {r : List V → Hp → VK → Prop} {B : List D → Mem → DQ → Prop} (hd : CallD K r B) {σ : L2.St} {H : Hp} {Q : VK} (h : lE K W (dB B TA) σ H Q) : tCB r (lA K W TA) σ H Q := by
  obtain ⟨Z, ρ, M, Qd, Rd, G, h⟩ := h
  exact G.seq (rel1 := RepL K) h fun Z1 H1 M1 vs xs G1 _ rs h1 => hd G1 rs h1
theorem de_b {id : String} {r : List V → Hp → VK → Prop} {B : List D → Mem → DQ → Prop} (hc : CallR X (.builtin id) r) (hd : CallD X.K r B) (hm : X.mg x = none) (ha : DA X W (e :: es) TA) (hv : bootBuiltins x = some (.builtin id) := by decide +kernel)
    (hg : Gl X x := by rfl) (hn : x ≠ "__name__" := by decide) (hdb : (x == ("__debug__" : Str)) = false := by decide) (he : starEach (e :: es) X.env = (false, eval e X.env) :: starEach es X.env := by rfl) (hpl : (backTo pos (starEach es X.env)).any (·.1) = false := by rfl) :
    DE X W (.Call (.Name x p) (e :: es) [] pos) (dB B TA) := wkE (pe_callB hc hg hm hv ha hn hdb he hpl) fun _ _ _ h => cb_ok hd h
theorem de_ty {T : String} {r : List V → Hp → VK → Prop} {B : List D → Mem → DQ → Prop} (hc : CallR X (.type T) r) (hd : CallD X.K r B) (hm : X.mg x = none) (ha : DA X W (e :: es) TA) (hv : bootBuiltins x = some (.type T) := by decide +kernel)
    (hg : Gl X x := by rfl) (hn : x ≠ "__name__" := by decide) (hdb : (x == ("__debug__" : Str)) = false := by decide) (he : starEach (e :: es) X.env = (false, eval e X.env) :: starEach es X.env := by rfl) (hpl : (backTo pos (starEach es X.env)).any (·.1) = false := by rfl) :
    DE X W (.Call (.Name x p) (e :: es) [] pos) (dB B TA) := wkE (pe_callTy hc hg hm hv ha hn hdb he hpl) fun _ _ _ h => cb_ok hd h
end
end Dl
namespace Dl
open PySem L2
/-! # Operations on data -/
/-! ### operators -/
def oAdd : D → D → Mem → DQ → Prop
  | .int i, .int j, M, Q => Q (.int (i + j)) M
  | .str i, .str j, M, Q => i.length + j.length ≤ 100000 ∧ Q (.str (i ++ j)) M
  | .lst i, .lst j, M, Q => i.length + j.length ≤ 100000 ∧ Q (.lst (i ++ j)) M
  | .tup i, .tup j, M, Q => i.length + j.length ≤ 100000 ∧ Q (.tup (i ++ j)) M
  | _, _, _, _ => False
def oSub : D → D → Mem → DQ → Prop
  | .int i, .int j, M, Q => Q (.int (i - j)) M
  | _, _, _, _ => False
def small64 (i : Int) : Prop := -(2 ^ 64) < i ∧ i < 2 ^ 64
def oMul : D → D → Mem → DQ → Prop
  | .int i, .int j, M, Q => (small64 i ∨ small64 j) ∧ Q (.int (i * j)) M
  | .lst i, .int j, M, Q => (0 ≤ j ∧ j ≤ 1000 ∧ i.length ≤ 100) ∧ Q (.lst (List.replicate j.toNat i).flatten) M
  | _, _, _, _ => False
def oDiv : D → D → Mem → DQ → Prop
  | .int i, .int j, M, Q => (0 < j ∧ j < 2 ^ 200) ∧ Q (.int (i / j)) M
  | _, _, _, _ => False
def oMod : D → D → Mem → DQ → Prop
  | .int i, .int j, M, Q => 0 < j ∧ Q (.int (i % j)) M
  | _, _, _, _ => False
def oPow : D → D → Mem → DQ → Prop
  | .int i, .int j, M, Q => (0 ≤ j ∧ j ≤ 1000 ∧ -100 ≤ i ∧ i ≤ 100) ∧ Q (.int (i ^ j.toNat)) M
  | _, _, _, _ => False
def oLt : D → D → Mem → DQ → Prop
  | .int i, .int j, M, Q => Q (.bl (decide (i < j))) M
  | .str i, .str j, M, Q => Q (.bl (decide (i.cps.toList < j.cps.toList))) M
  | _, _, _, _ => False
def oLe : D → D → Mem → DQ → Prop
  | .int i, .int j, M, Q => Q (.bl (decide (i ≤ j))) M
  | .str i, .str j, M, Q => Q (.bl (!decide (j.cps.toList < i.cps.toList))) M
  | _, _, _, _ => False
def oGt : D → D → Mem → DQ → Prop
  | .int i, .int j, M, Q => Q (.bl (decide (j < i))) M
  | _, _, _, _ => False
def oGe : D → D → Mem → DQ → Prop
  | .int i, .int j, M, Q => Q (.bl (decide (j ≤ i))) M
  | _, _, _, _ => False
/-- is None, is not None -/
def D.isN : D → Bool
  | .non => true
  | _ => false
def oIs : D → D → Mem → DQ → Prop
  | x, .non, M, Q => Q (.bl x.isN) M
  | _, _, _, _ => False
def oIsNot : D → D → Mem → DQ → Prop
  | x, .non, M, Q => Q (.bl (!x.isN)) M
  | .bl a, .bl b, M, Q => Q (.bl (!(a == b))) M
  | _, _, _, _ => False
/-! ### data as the library compares them -/
mutual
def D.py : D → PyData
  | .non => .none
  | .bl b => .bool b
  | .int i => .int i
  | .str x => .str x
  | .tup ds => .tuple (D.pyL ds)
  | .lst ds => .list (D.pyL ds)
  | .scr _ => .dict []
  | .fn _ => .dict []
  | .obj _ => .dict []
def D.pyL : List D → List PyData
  | [] => []
  | d :: ds => d.py :: D.pyL ds
end
/-- plain data of no great depth -/
def D.ok (d : D) : Prop := SeqAt.shaped d.py = true
def D.eqv (d e : D) : Bool := PyData.eqv d.py e.py
def oEq (x y : D) (M : Mem) (Q : DQ) : Prop := x.ok ∧ y.ok ∧ Q (.bl (x.eqv y)) M
def oNe (x y : D) (M : Mem) (Q : DQ) : Prop := x.ok ∧ y.ok ∧ Q (.bl (!x.eqv y)) M
/-- in -/
def D.any (x : D) : List D → Bool
  | [] => false
  | d :: ds => d.eqv x || D.any x ds
def oIn : D → D → Mem → DQ → Prop
  | .str ⟨⟨[c]⟩⟩, .str z, M, Q => Q (.bl (decide (c ∈ z.cps.toList))) M
  | x, .lst ds, M, Q => x.ok ∧ (D.lst ds).ok ∧ Q (.bl (D.any x ds)) M
  | _, _, _, _ => False
def oNotIn : D → D → Mem → DQ → Prop
  | .str ⟨⟨[c]⟩⟩, .str z, M, Q => Q (.bl (!decide (c ∈ z.cps.toList))) M
  | x, .lst ds, M, Q => x.ok ∧ (D.lst ds).ok ∧ Q (.bl (!D.any x ds)) M
  | _, _, _, _ => False

section
variable {K : PySem.W.Frag} {W : WX} {σ : St} {ρ : Env} {Z H : Hp} {M : Mem} {Qd : DQ} {Rd : DR} {Q : VK}
theorem Go.h (G : Go K W (Rep K) σ ρ Z H M Qd Rd Q) {a : Addr} {o : HO} (h : Z a = some o) : H a = some o := G.at_.zh a o h
mutual
theorem Rep.dp (e : Ex Z H) : ∀ {v : V} {d : D}, Rep K Z v d → d.py.canLay0 = true → Dp K H v d.py
  | _, _, .non, _ => by simp only [D.py]; exact .non
  | _, _, .bl b, _ => by simp only [D.py]; exact .bl b
  | _, _, .int i, _ => by simp only [D.py]; exact .int i
  | _, _, .str x, _ => by simp only [D.py]; exact .str x
  | _, _, .tup h r, q => by
    simp only [D.py, PyData.canLay0] at q ⊢
    exact .tup (SqT.of (e _ _ h)) (r.dp e q)
  | _, _, .lst h r, q => by
    simp only [D.py, PyData.canLay0] at q ⊢
    exact .lst (SqL.of (e _ _ h)) (r.dp e q)
  | _, _, .scr _, q => by simp [D.py, PyData.canLay0] at q
  | _, _, .fn _, q => by simp [D.py, PyData.canLay0] at q
  | _, _, .obj _, q => by simp [D.py, PyData.canLay0] at q
theorem RepL.dp (e : Ex Z H) : ∀ {vs : List V} {ds : List D}, RepL K Z vs ds → PyData.canLayAll0 (D.pyL ds) = true → DpAll K H vs (D.pyL ds)
  | _, _, .nil, _ => by simp only [D.pyL]; exact .nil
  | _, _, .cons h r, q => by
    simp only [D.pyL, PyData.canLayAll0, Bool.and_eq_true] at q ⊢
    exact .cons (h.dp e q.1) (r.dp e q.2)
end
end
theorem any_py (x : D) : ∀ ds : List D, (D.pyL ds).any (fun z => PyData.eqv z x.py) = D.any x ds
  | [] => by simp [D.pyL, D.any]
  | d :: ds => by
    simp only [D.pyL, List.any_cons, D.any, D.eqv]
    rw [any_py x ds]
section
variable {K : PySem.W.Frag}
/-! soundness -/
def rStr (f : Str → Str → V) : R2 := fun x y H Q => ∃ i j, x = .str i ∧ y = .str j ∧ Q (f i j) H
def rAddS : R2 := fun x y H Q => ∃ i j, x = .str i ∧ y = .str j ∧ i.length + j.length ≤ sizeLine ∧ Q (.str (i ++ j)) H
def rAddU (K : PySem.W.Frag) : R2 := fun x y H Q => (∃ i j, x = .int i ∧ y = .int j ∧ Q (.int (i + j)) H) ∨ rAddS x y H Q ∨ rCat x y H Q ∨ rCatA K x y H Q
theorem or_add {X : Cx} : OpR X (binaryOp .Add) (rAddU X.K) := op_add.or (op_add_str.or (op_cat.or op_catA))
theorem od_add : OpD K (rAddU K) oAdd := by
  intro W σ ρ Z H M Qd Rd Q v w x y G rx ry h
  cases x <;> cases y <;> first | exact h.elim | skip
  · cases rx; cases ry; exact .inl ⟨_, _, rfl, rfl, G.val (.int _) h⟩
  · cases rx; cases ry; exact .inr (.inl ⟨_, _, rfl, rfl, sz h.1, G.val (.str _) h.2⟩)
  · cases rx with
    | tup hz rs =>
      cases ry with
      | tup hz2 rs2 =>
        refine .inr (.inr (.inr ⟨_, _, _, _, rfl, rfl, SqT.of (G.h hz), SqT.of (G.h hz2), by rw [rs.length, rs2.length]; exact sz h.1, fun e => ?_, fun _ e => ?_, fun _ _ p hp => G.new (o := .tup _) hp (.tup upd_same ((rs.append rs2).mono (Ex.new (G.at_.zh.free hp)))) h.2⟩))
        · subst e; cases rs; exact G.val (.tup hz2 rs2) h.2
        · subst e; cases rs2; have h2 := h.2; rw [List.append_nil] at h2; exact G.val (.tup hz rs) h2
  · cases rx with
    | lst hz rs =>
      cases ry with
      | lst hz2 rs2 =>
        exact .inr (.inr (.inl ⟨_, _, _, _, rfl, rfl, G.h hz, G.h hz2, by rw [rs.length, rs2.length]; exact sz h.1, fun p hp => G.new (o := .lst _) hp (.lst upd_same ((rs.append rs2).mono (Ex.new (G.at_.zh.free hp)))) h.2⟩))
theorem od_sub : OpD K (rI0 fun i j => .int (i - j)) oSub := by
  intro W σ ρ Z H M Qd Rd Q v w x y G rx ry h
  cases x <;> cases y <;> first | exact h.elim | skip
  cases rx; cases ry; exact ⟨_, _, rfl, rfl, G.val (.int _) h⟩
def rMulU : R2 := fun x y H Q => rI CMul (fun i j => .int (i * j)) x y H Q ∨ rRep x y H Q
theorem or_mul {X : Cx} : OpR X (binaryOp .Mult) rMulU := op_mul.or op_rep
theorem RepL.flat {Z : Hp} {xs : List V} {ds : List D} (r : RepL K Z xs ds) : ∀ n : Nat, RepL K Z (List.replicate n xs).flatten (List.replicate n ds).flatten
  | 0 => .nil
  | n + 1 => by
    rw [List.replicate_succ, List.replicate_succ, List.flatten_cons, List.flatten_cons]
    exact r.append (RepL.flat r n)
theorem od_mul : OpD K rMulU oMul := by
  intro W σ ρ Z H M Qd Rd Q v w x y G rx ry h
  cases x <;> cases y <;> first | exact h.elim | skip
  · cases rx; cases ry; exact .inl ⟨_, _, rfl, rfl, h.1, G.val (.int _) h.2⟩
  · cases ry
    cases rx with
    | lst hz rs =>
      obtain ⟨⟨h1, h2, h3⟩, q⟩ := h
      refine .inr ⟨_, _, _, rfl, rfl, G.h hz, by omega, by omega, ?_, fun p hp => G.new (o := .lst _) hp (.lst upd_same ((rs.flat _).mono (Ex.new (G.at_.zh.free hp)))) q⟩
      rw [rs.length]
      refine Nat.le_trans (Nat.mul_le_mul h3 (show _ ≤ 1000 by omega)) (by decide)
theorem od_div : OpD K (rI CDivW fun i j => .int (i / j)) oDiv := by
  intro W σ ρ Z H M Qd Rd Q v w x y G rx ry h
  cases x <;> cases y <;> first | exact h.elim | skip
  cases rx; cases ry
  obtain ⟨⟨h1, h2⟩, q⟩ := h
  exact ⟨_, _, rfl, rfl, wide_div (b := 200) h1 (by omega) (by decide) (by decide), G.val (.int _) q⟩
theorem od_mod : OpD K (rI (fun _ j => 0 < j) fun i j => .int (i % j)) oMod := by
  intro W σ ρ Z H M Qd Rd Q v w x y G rx ry h
  cases x <;> cases y <;> first | exact h.elim | skip
  cases rx; cases ry; exact ⟨_, _, rfl, rfl, h.1, G.val (.int _) h.2⟩
theorem od_pow : OpD K (rI CPow fun i j => .int (i ^ j.toNat)) oPow := by
  intro W σ ρ Z H M Qd Rd Q v w x y G rx ry h
  cases x <;> cases y <;> first | exact h.elim | skip
  cases rx; cases ry
  obtain ⟨⟨h1, h2, h3, h4⟩, q⟩ := h
  exact ⟨_, _, rfl, rfl, ⟨h1, by omega, by omega⟩, G.val (.int _) q⟩
def rCmpU (p : Int → Int → Bool) (q : List Nat → List Nat → Bool) : R2 := fun x y H Q => rI0 (fun i j => .bl (p i j)) x y H Q ∨ ∃ i j, x = .str i ∧ y = .str j ∧ Q (.bl (q i.cps.toList j.cps.toList)) H
theorem or_lt {X : Cx} : OpR X (compareOp .Lt) (rCmpU (fun i j => decide (i < j)) fun a b => decide (a < b)) := op_lt.or op_lt_str
theorem or_le {X : Cx} : OpR X (compareOp .LtE) (rCmpU (fun i j => decide (i ≤ j)) fun a b => !decide (b < a)) := op_le.or op_le_str
theorem od_lt : OpD K (rCmpU (fun i j => decide (i < j)) fun a b => decide (a < b)) oLt := by
  intro W σ ρ Z H M Qd Rd Q v w x y G rx ry h
  cases x <;> cases y <;> first | exact h.elim | skip
  · cases rx; cases ry; exact .inl ⟨_, _, rfl, rfl, G.val (.bl _) h⟩
  · cases rx; cases ry; exact .inr ⟨_, _, rfl, rfl, G.val (.bl _) h⟩
theorem od_le : OpD K (rCmpU (fun i j => decide (i ≤ j)) fun a b => !decide (b < a)) oLe := by
  intro W σ ρ Z H M Qd Rd Q v w x y G rx ry h
  cases x <;> cases y <;> first | exact h.elim | skip
  · cases rx; cases ry; exact .inl ⟨_, _, rfl, rfl, G.val (.bl _) h⟩
  · cases rx; cases ry; exact .inr ⟨_, _, rfl, rfl, G.val (.bl _) h⟩
theorem od_gt : OpD K (rI0 fun i j => .bl (decide (j < i))) oGt := by
  intro W σ ρ Z H M Qd Rd Q v w x y G rx ry h
  cases x <;> cases y <;> first | exact h.elim | skip
  cases rx; cases ry; exact ⟨_, _, rfl, rfl, G.val (.bl _) h⟩
theorem od_ge : OpD K (rI0 fun i j => .bl (decide (j ≤ i))) oGe := by
  intro W σ ρ Z H M Qd Rd Q v w x y G rx ry h
  cases x <;> cases y <;> first | exact h.elim | skip
  cases rx; cases ry; exact ⟨_, _, rfl, rfl, G.val (.bl _) h⟩
theorem isN_of {Z : Hp} {v : V} {x : D} (r : Rep K Z v x) : decide (v = V.non) = x.isN := by
  cases r <;> rfl
def rIsU : R2 := fun x y H Q => y = .non ∧ Q (.bl (decide (x = .non))) H
def rIsNU : R2 := fun x y H Q => (y = .non ∧ Q (.bl (!decide (x = .non))) H) ∨ rNotB x y H Q
theorem or_is {X : Cx} : OpR X (compareOp .Is) rIsU := op_isN
theorem or_isnot {X : Cx} : OpR X (compareOp .IsNot) rIsNU := op_notN.or op_notBl
theorem od_is : OpD K rIsU oIs := by
  intro W σ ρ Z H M Qd Rd Q v w x y G rx ry h
  cases y <;> first | (cases x <;> exact h.elim) | skip
  cases ry
  exact ⟨rfl, G.val (by rw [isN_of rx]; exact .bl _) (show Qd (.bl x.isN) M by cases x <;> exact h)⟩
theorem od_isnot : OpD K rIsNU oIsNot := by
  intro W σ ρ Z H M Qd Rd Q v w x y G rx ry h
  cases y <;> first | (cases x <;> exact h.elim) | skip
  · cases ry
    exact .inl ⟨rfl, G.val (by rw [isN_of rx]; exact .bl _) (show Qd (.bl (!x.isN)) M by cases x <;> exact h)⟩
  · cases x <;> first | exact h.elim | skip
    cases rx; cases ry
    refine .inr ⟨_, _, rfl, rfl, G.val (.bl _) ?_⟩
    rename_i a b
    have e : (!decide (b = a)) = !(b == a) := by cases a <;> cases b <;> rfl
    rw [e]; exact h
theorem od_eq : OpD K (rEqD K) oEq := by
  intro W σ ρ Z H M Qd Rd Q v w x y G rx ry h
  obtain ⟨h1, h2, q⟩ := h
  exact ⟨_, _, rx.dp G.at_.zh (SeqAt.canLay_of_shaped h1), ry.dp G.at_.zh (SeqAt.canLay_of_shaped h2), h1, h2, G.val (.bl _) q⟩
theorem od_ne : OpD K (rNeD K) oNe := by
  intro W σ ρ Z H M Qd Rd Q v w x y G rx ry h
  obtain ⟨h1, h2, q⟩ := h
  exact ⟨_, _, rx.dp G.at_.zh (SeqAt.canLay_of_shaped h1), ry.dp G.at_.zh (SeqAt.canLay_of_shaped h2), h1, h2, G.val (.bl _) q⟩
def rInSign (n : Bool) : R2 := fun x y H Q => ∃ (c : Nat) (z : Str), x = .str ⟨#[c]⟩ ∧ y = .str z ∧ Q (.bl (if n then !decide (c ∈ z.cps.toList) else decide (c ∈ z.cps.toList))) H
end
end Dl
namespace Dl
open PySem L2
/-! # Operations on data: in, subscripts, slices, built-ins, what changes -/
/-! ### what may change, read and written -/
def mget : Mem → Nat → Option MO
  | [], _ => none
  | x :: r, p => if x.1 = p then some x.2 else mget r p
def mset : Mem → Nat → MO → Mem
  | [], _, _ => []
  | x :: r, p, o => if x.1 = p then (p, o) :: r else x :: mset r p o
def mdel : Mem → Nat → Mem
  | [], _ => []
  | x :: r, p => if x.1 = p then r else x :: mdel r p
theorem mget_mem : ∀ {M : Mem} {p : Nat} {o : MO}, mget M p = some o → (p, o) ∈ M
  | [], _, _, h => by cases h
  | x :: r, p, o, h => by
    unfold mget at h
    by_cases e : x.1 = p
    · rw [if_pos e] at h; cases h; subst e; exact List.mem_cons_self ..
    · rw [if_neg e] at h; exact List.mem_cons_of_mem _ (mget_mem h)
theorem mget_key {M : Mem} {p : Nat} {o : MO} (h : mget M p = some o) : p ∈ keys M := List.mem_map.mpr ⟨_, mget_mem h, rfl⟩
theorem mset_keys : ∀ (M : Mem) (p : Nat) (o : MO), keys (mset M p o) = keys M
  | [], _, _ => rfl
  | x :: r, p, o => by
    unfold mset
    by_cases e : x.1 = p
    · rw [if_pos e]; subst e; rfl
    · rw [if_neg e]; exact congrArg (x.1 :: ·) (mset_keys r p o)
theorem mset_mem : ∀ {M : Mem} {p : Nat} {o : MO} {q : Nat} {u : MO}, (keys M).Nodup → (q, u) ∈ mset M p o → (q = p ∧ u = o) ∨ (q ≠ p ∧ (q, u) ∈ M)
  | [], _, _, _, _, _, h => by cases h
  | x :: r, p, o, q, u, nd, h => by
    have nd' := List.nodup_cons.mp (show (x.1 :: keys r).Nodup from nd)
    unfold mset at h
    by_cases e : x.1 = p
    · rw [if_pos e] at h
      rcases List.mem_cons.mp h with h | h
      · cases h; exact .inl ⟨rfl, rfl⟩
      · refine .inr ⟨fun z => nd'.1 ?_, List.mem_cons_of_mem _ h⟩
        rw [e, ← z]; exact List.mem_map.mpr ⟨(q, u), h, rfl⟩
    · rw [if_neg e] at h
      rcases List.mem_cons.mp h with h | h
      · cases h; exact .inr ⟨e, List.mem_cons_self ..⟩
      · rcases mset_mem nd'.2 h with h | h
        · exact .inl h
        · exact .inr ⟨h.1, List.mem_cons_of_mem _ h.2⟩
theorem mget_cons_self (p : Nat) (o : MO) (M : Mem) : mget ((p, o) :: M) p = some o := by simp [mget]
theorem mget_cons_ne {p q : Nat} {o : MO} {M : Mem} (h : p ≠ q) : mget ((p, o) :: M) q = mget M q := by simp [mget, h]
theorem mset_cons_self (p : Nat) (o u : MO) (M : Mem) : mset ((p, o) :: M) p u = (p, u) :: M := by simp [mset]
theorem mset_cons_ne {p q : Nat} {o u : MO} {M : Mem} (h : p ≠ q) : mset ((p, o) :: M) q u = (p, o) :: mset M q u := by simp [mset, h]
theorem mdel_cons_self (p : Nat) (o : MO) (M : Mem) : mdel ((p, o) :: M) p = M := by simp [mdel]
theorem mdel_cons_ne {p q : Nat} {o : MO} {M : Mem} (h : p ≠ q) : mdel ((p, o) :: M) q = (p, o) :: mdel M q := by simp [mdel, h]
theorem mdel_sub : ∀ (M : Mem) (p : Nat), (mdel M p).Sublist M
  | [], _ => .slnil
  | x :: r, p => by
    unfold mdel
    by_cases e : x.1 = p
    · rw [if_pos e]; exact .cons _ (.refl _)
    · rw [if_neg e]; exact (mdel_sub r p).cons₂ _
theorem mdel_key : ∀ {M : Mem} (p : Nat), (keys M).Nodup → p ∉ keys (mdel M p)
  | [], _, _ => by simp [mdel, keys]
  | x :: r, p, nd => by
    have nd' := List.nodup_cons.mp (show (x.1 :: keys r).Nodup from nd)
    unfold mdel
    by_cases e : x.1 = p
    · rw [if_pos e, ← e]; exact nd'.1
    · rw [if_neg e]
      intro h
      rcases List.mem_cons.mp (show p ∈ x.1 :: keys (mdel r p) from h) with h | h
      · exact e h.symm
      · exact mdel_key p nd'.2 h
section
variable {K : PySem.W.Frag} {W : WX} {σ : St} {ρ : Env} {Z H : Hp} {M : Mem} {α β : Type} {rel : Hp → β → α → Prop} {Qd : α → Mem → Prop} {Rd : DR} {Q : β → Hp → Prop}
theorem At.get (a : At K Z H σ ρ M) {p : Nat} {m : MO} (h : mget M p = some m) : MOk K Z H p m := (a.mem p m (mget_mem h)).2
theorem At.write (a : At K Z H σ ρ M) {p : Nat} {m m' : MO} {o : HO} (h : mget M p = some m) (hm : MOk K Z (upd H p o) p m') : Gr Z H M Z (upd H p o) (mset M p m') ∧ At K Z (upd H p o) σ ρ (mset M p m') := by
  have hz := (a.mem p m (mget_mem h)).1
  refine ⟨⟨Ex.refl Z, fun b u e => .inl e, fun b u e hb => ?_, fun q hq => .inl (by rw [mset_keys] at hq; exact hq)⟩, ⟨⟨fun b u e => ?_, fun q u hq => ?_, by rw [mset_keys]; exact a.nd⟩, a.sl, a.ln⟩⟩
  · rw [upd_ne fun z => hb (by rw [z]; exact mget_key h)]; exact e
  · rw [upd_ne (ne_of_none e hz)]; exact a.zh b u e
  · rcases mset_mem a.nd hq with ⟨rfl, rfl⟩ | ⟨h1, h2⟩
    · exact ⟨hz, hm⟩
    · exact ⟨(a.mem q u h2).1, (a.mem q u h2).2.mono (Ex.refl Z) (by rw [upd_ne h1])⟩
theorem Go.write (G : Go K W rel σ ρ Z H M Qd Rd Q) {p : Nat} {m m' : MO} {o : HO} {v : β} {d : α} (h : mget M p = some m) (hm : MOk K Z (upd H p o) p m') (r : rel Z v d) (q : Qd d (mset M p m')) : Q v (upd H p o) :=
  G.k _ _ _ v d (G.at_.write h hm).1 (G.at_.write h hm).2 r q
/-- a list that changes no more -/
theorem At.frz (a : At K Z H σ ρ M) {p : Nat} {ds : List D} (h : mget M p = some (.lst ds)) : ∃ xs, H p = some (.lst xs) ∧ RepL K Z xs ds ∧ Gr Z H M (upd Z p (.lst xs)) H (mdel M p) ∧ At K (upd Z p (.lst xs)) H σ ρ (mdel M p) := by
  obtain ⟨hz, xs, hp, rs⟩ := a.mem p _ (mget_mem h)
  have ez : Ex Z (upd Z p (.lst xs)) := Ex.new hz
  refine ⟨xs, hp, rs, ⟨ez, fun b u e => ?_, fun b u e _ => e, fun q hq => .inl (((mdel_sub M p).map _).subset hq)⟩, ⟨⟨fun b u e => ?_, fun q u hq => ?_, a.nd.sublist ((mdel_sub M p).map _)⟩, fun i d e => ?_, a.ln⟩⟩
  · by_cases hb : b = p
    · rw [hb]; exact .inr (.inr (.inl (mget_key h)))
    · rw [upd_ne hb] at e; exact .inl e
  · by_cases hb : b = p
    · rw [hb, upd_same] at e; rw [hb, hp]; exact e
    · rw [upd_ne hb] at e; exact a.zh b u e
  · have hq' := (mdel_sub M p).subset hq
    have hne : q ≠ p := fun z => mdel_key p a.nd (z ▸ (List.mem_map.mpr ⟨(q, u), hq, rfl⟩ : q ∈ keys (mdel M p)))
    exact ⟨by rw [upd_ne hne]; exact (a.mem q u hq').1, (a.mem q u hq').2.mono ez rfl⟩
  · obtain ⟨v, e1, r⟩ := a.sl i d e
    exact ⟨v, e1, r.mono ez⟩
end
/-- a list's value for good -/
def dFrz (a : DTE) : DTE := fun ρ M Q R => a ρ M (fun x M1 => match x with
  | .obj p => match mget M1 p with
    | some (.lst ds) => Q (.lst ds) (mdel M1 p)
    | _ => False
  | x => Q x M1) R
theorem de_frz {X : Cx} {W : WX} {e : Expr} {T : DTE} (h : DE X W e T) : DE X W e (dFrz T) :=
  wkE h fun σ H Q ⟨Z, ρ, M, Qd, Rd, G, h⟩ => G.seq (rel1 := Rep X.K) h fun Z1 H1 M1 v x G1 _ rx h1 => by
    cases x with
    | obj p =>
      cases rx
      dsimp only at h1
      cases q : mget M1 p with
      | none => rw [q] at h1; exact h1.elim
      | some m =>
        rw [q] at h1
        cases m with
        | lst ds =>
          obtain ⟨xs, hp, rs, g, a⟩ := G1.at_.frz q
          exact G1.k _ _ _ _ _ g a (.lst upd_same (rs.mono g.zz)) h1
        | _ => exact h1.elim
    | _ => exact G1.val rx h1

/-! ### in -/
def D.flat : D → Bool
  | .non => true
  | .bl _ => true
  | .int _ => true
  | .str _ => true
  | _ => false
/-- keys of dicts -/
def D.key : D → Option Key
  | .int i => some (.inl i)
  | .str x => some (.inr x)
  | _ => none
def D.keyL : List D → Option (List Key)
  | [] => some []
  | d :: ds => match d.key, D.keyL ds with
    | some k, some ks => some (k :: ks)
    | _, _ => none
def D.keyT : D → Option (List Key)
  | .tup ds => D.keyL ds
  | _ => none
def lookD {κ : Type} [DecidableEq κ] (kvs : List (κ × D)) (k : κ) : Option D := (kvs.find? fun kv => decide (kv.1 = k)).map (·.2)
def putD {κ : Type} [DecidableEq κ] (kvs : List (κ × D)) (k : κ) (v : D) : List (κ × D) :=
  if (kvs.any fun kv => decide (kv.1 = k)) = true then kvs.map (fun kv => if kv.1 = k then (kv.1, v) else kv) else kvs ++ [(k, v)]
theorem lookD_rep {κ : Type} [DecidableEq κ] {K : PySem.W.Frag} {Z : Hp} (k : κ) : ∀ {kv : List (κ × V)} {kvs : List (κ × D)}, All2 (KvR K Z) kv kvs → (valV kv k = none ∧ lookD kvs k = none) ∨ ∃ v d, valV kv k = some v ∧ lookD kvs k = some d ∧ Rep K Z v d
  | _, _, .nil => .inl ⟨rfl, rfl⟩
  | (a, v) :: kv, (b, d) :: kvs, .cons h t => by
    obtain ⟨h1, h2⟩ := h
    dsimp only at h1 h2
    subst h1
    unfold valV lookD
    rw [List.find?_cons, List.find?_cons]
    by_cases e : a = k
    · simp only [decide_eq_true e]; exact .inr ⟨v, d, rfl, rfl, h2⟩
    · simp only [decide_eq_false e]; exact lookD_rep k t
theorem any_rep {κ : Type} [DecidableEq κ] {K : PySem.W.Frag} {Z : Hp} (k : κ) : ∀ {kv : List (κ × V)} {kvs : List (κ × D)}, All2 (KvR K Z) kv kvs → (kv.any fun x => decide (x.1 = k)) = kvs.any fun x => decide (x.1 = k)
  | _, _, .nil => rfl
  | _, _, .cons h t => by rw [List.any_cons, List.any_cons, any_rep k t, h.1]
theorem All2.map2 {α β : Type} {F : α → β → Prop} {f : α → α} {g : β → β} (h : ∀ a b, F a b → F (f a) (g b)) : ∀ {l m}, All2 F l m → All2 F (l.map f) (m.map g)
  | _, _, .nil => .nil
  | _, _, .cons a t => .cons (h _ _ a) (t.map2 h)
theorem All2.snoc {α β : Type} {F : α → β → Prop} {a : α} {b : β} (h : F a b) : ∀ {l m}, All2 F l m → All2 F (l ++ [a]) (m ++ [b])
  | _, _, .nil => .cons h .nil
  | _, _, .cons x t => .cons x (t.snoc h)
theorem putD_rep {κ : Type} [DecidableEq κ] {K : PySem.W.Frag} {Z : Hp} {kv : List (κ × V)} {kvs : List (κ × D)} (k : κ) {v : V} {d : D} (r : All2 (KvR K Z) kv kvs) (h : Rep K Z v d) : All2 (KvR K Z) (putK kv k v) (putD kvs k d) := by
  unfold putK putD
  rw [any_rep k r]
  by_cases e : (kvs.any fun x => decide (x.1 = k)) = true
  · rw [if_pos e, if_pos e]
    refine r.map2 fun a b z => ?_
    by_cases ha : a.1 = k
    · rw [if_pos ha, if_pos (z.1 ▸ ha)]; exact ⟨z.1, h⟩
    · rw [if_neg ha, if_neg (fun q => ha (z.1.trans q))]; exact z
  · rw [if_neg e, if_neg e]
    exact r.snoc ⟨rfl, h⟩
theorem key_rep {K : PySem.W.Frag} {Z : Hp} {v : V} {d : D} {k : Key} (r : Rep K Z v d) (h : d.key = some k) : v = kV k := by
  cases r <;> cases h <;> rfl
theorem keyL_rep {K : PySem.W.Frag} {Z : Hp} : ∀ {vs : List V} {ds : List D} {ks : List Key}, RepL K Z vs ds → D.keyL ds = some ks → vs = ks.map kV
  | _, _, _, .nil, h => by cases h; rfl
  | v :: vs, d :: ds, ks, .cons r t, h => by
    unfold D.keyL at h
    cases hk : d.key with
    | none => rw [hk] at h; cases h
    | some k =>
      cases hl : D.keyL ds with
      | none => rw [hk, hl] at h; cases h
      | some l =>
        rw [hk, hl] at h
        cases h
        rw [List.map_cons, key_rep r hk, keyL_rep t hl]
theorem keyT_rep {K : PySem.W.Frag} {Z : Hp} {v : V} {d : D} {k : List Key} (r : Rep K Z v d) (h : d.keyT = some k) : ∃ b, v = .ref b ∧ Z b = some (.tup (k.map kV)) := by
  cases r with
  | tup hz rs => exact ⟨_, rfl, by rw [← keyL_rep rs h]; exact hz⟩
  | _ => cases h
/-- what a dict at p tells of a key -/
def DGetD (M : Mem) (p : Nat) (x : D) (r : Option D) : Prop :=
  (∃ kvs k, mget M p = some (.dK kvs) ∧ x.key = some k ∧ r = lookD kvs k) ∨ ∃ kvs k, mget M p = some (.dT kvs) ∧ x.keyT = some k ∧ r = lookD kvs k
theorem dget_ok {K : PySem.W.Frag} {σ : St} {ρ : Env} {Z H : Hp} {M : Mem} {p : Nat} {v : V} {x : D} {r : Option D} (a : At K Z H σ ρ M) (rx : Rep K Z v x) (h : DGetD M p x r) :
    (DGet H p v none ∧ r = none) ∨ ∃ w d, DGet H p v (some w) ∧ r = some d ∧ Rep K Z w d := by
  rcases h with ⟨kvs, k, e, hk, hr⟩ | ⟨kvs, k, e, hk, hr⟩
  · obtain ⟨kv, hp, al⟩ := a.get e
    rcases lookD_rep k al with ⟨h1, h2⟩ | ⟨w, d, h1, h2, h3⟩
    · exact .inl ⟨.inl ⟨kv, k, .inl hp, key_rep rx hk, h1.symm⟩, hr.trans h2⟩
    · exact .inr ⟨w, d, .inl ⟨kv, k, .inl hp, key_rep rx hk, h1.symm⟩, hr.trans h2, h3⟩
  · obtain ⟨kv, hp, al⟩ := a.get e
    obtain ⟨b, eb, hb⟩ := keyT_rep rx hk
    rcases lookD_rep k al with ⟨h1, h2⟩ | ⟨w, d, h1, h2, h3⟩
    · exact .inl ⟨.inr ⟨kv, k, b, .inl hp, eb, a.zh _ _ hb, h1.symm⟩, hr.trans h2⟩
    · exact .inr ⟨w, d, .inr ⟨kv, k, b, .inl hp, eb, a.zh _ _ hb, h1.symm⟩, hr.trans h2, h3⟩
theorem eqV_rep {K : PySem.W.Frag} {Z : Hp} {v w : V} {x y : D} (r : Rep K Z v x) (q : Rep K Z w y) (hx : x.flat = true) (hy : y.flat = true) : eqV v w = D.eqv x y := by
  cases r <;> first | cases hx | skip
  all_goals (cases q <;> first | cases hy | skip)
  all_goals (simp only [eqV, D.eqv, D.py, PyData.eqv])
theorem flat_rep {K : PySem.W.Frag} {Z : Hp} {v : V} {x : D} (r : Rep K Z v x) (hx : x.flat = true) : flatV v = true := by
  cases r <;> first | (cases hx; done) | rfl
theorem inV_rep {K : PySem.W.Frag} {Z : Hp} {v : V} {x : D} (r : Rep K Z v x) (hx : x.flat = true) : ∀ {vs : List V} {ds : List D}, RepL K Z vs ds → ds.all D.flat = true → inV v vs = D.any x ds ∧ vs.all flatV = true
  | _, _, .nil, _ => ⟨rfl, rfl⟩
  | _, _, .cons q t, h => by
    rw [List.all_cons, Bool.and_eq_true] at h
    obtain ⟨h1, h2⟩ := inV_rep r hx t h.2
    refine ⟨?_, by rw [List.all_cons, flat_rep q h.1, h2]; rfl⟩
    unfold inV at h1 ⊢
    unfold D.any
    rw [List.any_cons, h1, eqV_rep q r h.1 hx]
end Dl
namespace Dl
open PySem PySem.Spec PyProof.Rows L2
/-! # in, subscripts, slices -/
/-- x in y (n: not in) -/
def qIn (n : Bool) (x y : D) (M : Mem) (Q : DQ) : Prop := match y with
  | .str z => ∃ c : Nat, x = .str ⟨#[c]⟩ ∧ Q (.bl (xor n (decide (c ∈ z.cps.toList)))) M
  | .lst ds => (x.flat = true ∧ ds.all D.flat = true ∨ x.ok ∧ (D.lst ds).ok) ∧ Q (.bl (xor n (D.any x ds))) M
  | .tup ds => (x.flat = true ∧ ds.all D.flat = true) ∧ Q (.bl (xor n (D.any x ds))) M
  | .obj p => ∃ r, DGetD M p x r ∧ Q (.bl (xor n r.isSome)) M
  | _ => False
def rInU (n : Bool) (K : PySem.W.Frag) : R2 := fun x y H Q =>
  (∃ (c : Nat) (z : Str), x = .str ⟨#[c]⟩ ∧ y = .str z ∧ Q (.bl (xor n (decide (c ∈ z.cps.toList)))) H) ∨ rIn K n x y H Q ∨
  (∃ d ds, Dp K H x d ∧ Dp K H y (.list ds) ∧ SeqAt.shaped d = true ∧ SeqAt.shaped (.list ds) = true ∧ Q (.bl (xor n (ds.any fun z => PyData.eqv z d))) H) ∨ ∃ a o, y = .ref a ∧ DGet H a x o ∧ Q (.bl (xor n o.isSome)) H
theorem op_in_d {X : Cx} (hu : X.A.units + 1 < cLine) : OpR X (compareOp .In) (fun x y H Q => ∃ a o, y = .ref a ∧ DGet H a x o ∧ Q (.bl o.isSome) H) := by
  intro pins s σ H x y v u Q I rx ry h
  obtain ⟨a, o, rfl, g, q⟩ := h
  obtain rfl : u = Value.ref a := ry
  exact d_in hu I g rx fun s3 I3 => ⟨.bl o.isSome, H, I3, rfl, q⟩
theorem op_notIn_d {X : Cx} (hu : X.A.units + 1 < cLine) : OpR X (compareOp .NotIn) (fun x y H Q => ∃ a o, y = .ref a ∧ DGet H a x o ∧ Q (.bl (!o.isSome)) H) := by
  intro pins s σ H x y v u Q I rx ry h
  obtain ⟨a, o, rfl, g, q⟩ := h
  obtain rfl : u = Value.ref a := ry
  exact d_notIn hu I g rx fun s3 I3 => ⟨.bl (!o.isSome), H, I3, rfl, q⟩
theorem xf (b : Bool) : xor false b = b := by cases b <;> rfl
theorem xt (b : Bool) : xor true b = !b := by cases b <;> rfl
theorem or_in {X : Cx} (hu : X.A.units + 65 < cLine) : OpR X (compareOp .In) (rInU false X.K) := by
  unfold rInU
  simp only [xf]
  exact op_in_sign.or (op_in_seq.or ((op_inD hu).or (op_in_d (by omega))))
theorem or_notin {X : Cx} (hu : X.A.units + 65 < cLine) : OpR X (compareOp .NotIn) (rInU true X.K) := by
  unfold rInU
  simp only [xt]
  exact op_notIn_sign.or (op_notIn_seq.or ((op_notInD hu).or (op_notIn_d (by omega))))
section
variable {K : PySem.W.Frag}
theorem if_xor (n b : Bool) : (if n then !b else b) = xor n b := by cases n <;> cases b <;> rfl
theorem od_inG (n : Bool) : OpD K (rInU n K) (qIn n) := by
  intro W σ ρ Z H M Qd Rd Q v w x y G rx ry h
  cases y with
  | str z =>
    cases ry
    obtain ⟨c, rfl, q⟩ := h
    cases rx
    exact .inl ⟨_, _, rfl, rfl, G.val (.bl _) q⟩
  | lst ds =>
    obtain ⟨c, q⟩ := h
    cases ry with
    | lst hz rs =>
      rcases c with ⟨h1, h2⟩ | ⟨h1, h2⟩
      · obtain ⟨e1, e2⟩ := inV_rep rx h1 rs h2
        exact .inr (.inl ⟨_, _, rfl, .inl (SqL.of (G.h hz)), flat_rep rx h1, e2, by rw [e1, if_xor]; exact G.val (.bl _) q⟩)
      · refine .inr (.inr (.inl ⟨_, _, rx.dp G.at_.zh (SeqAt.canLay_of_shaped h1), by
          have z := (Rep.lst hz rs).dp G.at_.zh (SeqAt.canLay_of_shaped h2)
          simpa only [D.py] using z, h1, by have z := h2; unfold D.ok at z; simpa only [D.py] using z, ?_⟩))
        rw [any_py]; exact G.val (.bl _) q
  | tup ds =>
    obtain ⟨⟨h1, h2⟩, q⟩ := h
    cases ry with
    | tup hz rs =>
      obtain ⟨e1, e2⟩ := inV_rep rx h1 rs h2
      exact .inr (.inl ⟨_, _, rfl, .inr (SqT.of (G.h hz)), flat_rep rx h1, e2, by rw [e1, if_xor]; exact G.val (.bl _) q⟩)
  | obj p =>
    obtain ⟨r, g, q⟩ := h
    cases ry
    rcases dget_ok G.at_ rx g with ⟨h1, rfl⟩ | ⟨w, d, h1, rfl, h3⟩
    · exact .inr (.inr (.inr ⟨_, _, rfl, h1, G.val (.bl _) q⟩))
    · exact .inr (.inr (.inr ⟨_, _, rfl, h1, G.val (.bl _) q⟩))
  | _ => exact h.elim
theorem od_in : OpD K (rInU false K) (qIn false) := od_inG false
theorem od_notin : OpD K (rInU true K) (qIn true) := od_inG true
end
/-! ### x[i] -/
def dIx (x y : D) (M : Mem) (Q : DQ) : Prop := match x with
  | .tup ds => ∃ i d, y = .int i ∧ atI ds i = some d ∧ Q d M
  | .lst ds => ∃ i d, y = .int i ∧ atI ds i = some d ∧ Q d M
  | .scr ns => ∃ i n, y = .int i ∧ atI ns i = some n ∧ Q (.int n) M
  | .str z => ∃ i c, z.length ≤ 100000 ∧ y = .int i ∧ atI z.cps.toList i = some c ∧ Q (.str ⟨#[c]⟩) M
  | .obj p => match mget M p with
    | some (.lst ds) => ∃ i d, y = .int i ∧ atI ds i = some d ∧ Q d M
    | some .can => (y = .int 0 ∧ ∀ a : Int, 0 ≤ a → Q (.int a) M) ∨ (y = .int 1 ∧ ∀ b : Int, 0 ≤ b → b ≤ 2147483237 → Q (.int b) M)
    | _ => ∃ d, DGetD M p y (some d) ∧ Q d M
  | _ => False
theorem RepL.ix {K : PySem.W.Frag} {Z : Hp} {vs : List V} {ds : List D} (r : RepL K Z vs ds) {i : Int} {d : D} (h : atI ds i = some d) : ∃ v, atI vs i = some v ∧ Rep K Z v d := by
  unfold atI at h ⊢
  rw [r.length]
  cases e : ixN ds.length i with
  | none => rw [e] at h; cases h
  | some j =>
    rw [e] at h
    exact r.get (i := j) h
def rDix : R2 := fun x y H Q => ∃ a v, x = .ref a ∧ DGet H a y (some v) ∧ Q v H
theorem ix_d {X : Cx} (hu : X.A.units + 1 < cLine) : IxR X rDix := by
  intro value slice pins s σ H x y v u Q I rx ry h hs
  obtain ⟨a, w, rfl, g, q⟩ := h
  obtain rfl : v = Value.ref a := rx
  unfold PyProof.Rows.subscriptTail
  refine wpAny_bind ?_
  have hT := dict_typeIs I g
  rw [getitemInPython_of_ne hT.not_modules]
  refine wpAny_bind (wpAny_specialOf hT PySem.F.slot_dict_getitem.lookup ?_)
  have fin : wpAny (model X.prog X.w) X.A (subscripted slice false (.ref a) u) (fun r s₃ => wpAny (model X.prog X.w) X.A (letTemporaryGo value (.ref a) r >>= fun _ => pure r) (EP X pins σ Q) X.xe s₃) X.xe s := by
    rw [hs]
    exact wpAny_operating (d_getItem hu I g ry fun w' s3 I3 rw' => wpAny_bind (wpAny_letTemporaryGo (wpAny_pure ⟨w, H, I3, rw', q⟩)))
  first
    | exact wpAny_pure (wpAny_bind fin)
    | exact wpAny_bind (wpAny_pure (wpAny_bind fin))
    | exact wpAny_bind fin
def rIxU (K : PySem.W.Frag) : R2 := fun x y H Q => rIx K x y H Q ∨ rDix x y H Q
theorem or_ix {X : Cx} (hu : X.A.units + 1 < cLine) : IxR X (rIxU X.K) := ix_seq.or (ix_d hu)
theorem od_ix {K : PySem.W.Frag} : OpD K (rIxU K) dIx := by
  intro W σ ρ Z H M Qd Rd Q v w x y G rx ry h
  cases x with
  | tup ds =>
    obtain ⟨i, d, rfl, e, q⟩ := h
    cases ry
    cases rx with
    | tup hz rs =>
      obtain ⟨u, e1, r⟩ := rs.ix e
      exact .inl (.inr (.inl ⟨_, _, _, u, rfl, rfl, SqT.of (G.h hz), e1, G.val r q⟩))
  | lst ds =>
    obtain ⟨i, d, rfl, e, q⟩ := h
    cases ry
    cases rx with
    | lst hz rs =>
      obtain ⟨u, e1, r⟩ := rs.ix e
      exact .inl (.inl ⟨_, _, _, u, rfl, rfl, SqL.of (G.h hz), e1, G.val r q⟩)
  | scr ns =>
    obtain ⟨i, d, rfl, e, q⟩ := h
    cases ry
    cases rx with
    | scr hz =>
      refine .inl (.inl ⟨_, _, _, .int d, rfl, rfl, G.at_.zh.l hz, ?_, G.val (.int _) q⟩)
      unfold atI at e ⊢
      rw [List.length_map]
      cases q : ixN ns.length i with
      | none => rw [q] at e; cases e
      | some j =>
        rw [q] at e
        show (ns.map V.int)[j]? = _
        rw [List.getElem?_map, show ns[j]? = some d from e]; rfl
  | str z =>
    obtain ⟨i, c, h0, rfl, e, q⟩ := h
    cases rx; cases ry
    exact .inl (.inr (.inr ⟨_, _, c, rfl, rfl, sz h0, e, G.val (.str _) q⟩))
  | obj p =>
    cases rx
    dsimp only [dIx] at h
    cases e : mget M p with
    | none =>
      rw [e] at h
      obtain ⟨d, g, q⟩ := h
      rcases g with ⟨_, _, g, _⟩ | ⟨_, _, g, _⟩ <;> (rw [e] at g; cases g)
    | some m =>
      rw [e] at h
      cases m with
      | lst ds =>
        obtain ⟨i, d, rfl, e1, q⟩ := h
        cases ry
        obtain ⟨xs, hp, rs⟩ := G.at_.get e
        obtain ⟨u, e2, r⟩ := rs.ix e1
        exact .inl (.inl ⟨_, _, _, u, rfl, rfl, SqL.of hp, e2, G.val r q⟩)
      | can =>
        obtain ⟨a, b, hp, h1, h2, h3⟩ := G.at_.get e
        rcases h with ⟨rfl, k⟩ | ⟨rfl, k⟩
        · cases ry; exact .inl (.inl ⟨_, _, _, .int a, rfl, rfl, SqL.of hp, rfl, G.val (.int _) (k a h1)⟩)
        · cases ry; exact .inl (.inl ⟨_, _, _, .int b, rfl, rfl, SqL.of hp, rfl, G.val (.int _) (k b h2 h3)⟩)
      | _ =>
        obtain ⟨d, g, q⟩ := h
        rcases dget_ok G.at_ ry g with ⟨_, e⟩ | ⟨u, d', h1, e, r⟩
        · cases e
        · cases e; exact .inr ⟨_, u, rfl, h1, G.val r q⟩
  | _ => exact h.elim
theorem de_ix {X : Cx} {W : WX} {a b : Expr} {pos : Pos} {Ta Tb : DTE} (hu : X.A.units + 1 < cLine) (ha : DE X W a Ta) (hb : DE X W b Tb) (hs : PlainIx b := by intro _ _; rfl) : DE X W (.Subscript a b pos) (dOp dIx Ta Tb) :=
  wkE (pe_ix (or_ix hu) ha hb hs) fun _ _ _ h => dOp_ok od_ix h
/-! ### x[a:b] -/
abbrev DTO := DX (Option Int)
def lO (K : PySem.W.Frag) (W : WX) (T : DTO) : TO := lf K W (fun _ (b : Option Int) b' => b = b') T
abbrev DO (X : Cx) (W : WX) (e : Option Expr) (T : DTO) : Prop := PO X e (lO X.K W T)
def dNoP : DTO := fun _ M Q _ => Q none M
def dPart (a : DTE) : DTO := fun ρ M Q R => a ρ M (fun x M1 => match x with
  | .int i => Q (some i) M1
  | _ => False) R
theorem wkO {X : Cx} {e : Option Expr} {t t' : TO} (h : PO X e t) (w : ∀ σ H Q, t' σ H Q → t σ H Q) : PO X e t' := ⟨fun p s σ H Q I q => h.run p s σ H Q I (w σ H Q q)⟩
theorem do_none {X : Cx} {W : WX} : DO X W none dNoP := wkO po_none fun σ H Q ⟨Z, ρ, M, Qd, Rd, G, h⟩ => G.val (rel := fun _ b b' => b = b') rfl h
theorem do_some {X : Cx} {W : WX} {e : Expr} {T : DTE} (h : DE X W e T) : DO X W (some e) (dPart T) := wkO (po_some h) fun σ H Q ⟨Z, ρ, M, Qd, Rd, G, h⟩ => G.seq (rel1 := Rep X.K) h fun Z1 H1 M1 v x G1 _ rx h1 => by
  cases x <;> first | exact h1.elim | skip
  cases rx
  exact ⟨_, rfl, G1.val (rel := fun _ b b' => b = b') rfl h1⟩
def cutD (xs : List D) (lo hi : Option Int) : List D := (xs.drop (HT.sIx xs.length 0 lo)).take (HT.sIx xs.length xs.length hi - HT.sIx xs.length 0 lo)
def dSl (a : DTE) (l u : DTO) : DTE := fun ρ M Q R => a ρ M (fun x M1 => l ρ M1 (fun lo M2 => u ρ M2 (fun hi M3 => match x with
  | .str z => z.length ≤ 100000 ∧ Q (.str (cutS z lo hi)) M3
  | .lst ds => Q (.lst (cutD ds lo hi)) M3
  | .tup ds => Q (.tup (cutD ds lo hi)) M3
  | _ => False) R) R) R
theorem SlR.or' {X : Cx} {r r' : V → Option Int → Option Int → Hp → VK → Prop} (h : SlR X r) (h' : SlR X r') : SlR X (fun x l u H Q => r x l u H Q ∨ r' x l u H Q) := fun pins s σ H x v vl vu lo hi sl Q I rx hs h1 h2 q => by
  rcases q with q | q
  · exact h pins s σ H x v vl vu lo hi sl Q I rx hs h1 h2 q
  · exact h' pins s σ H x v vl vu lo hi sl Q I rx hs h1 h2 q
theorem RepL.cut {K : PySem.W.Frag} {Z : Hp} {vs : List V} {ds : List D} (r : RepL K Z vs ds) (lo hi : Option Int) : RepL K Z (cutV vs lo hi) (cutD ds lo hi) := by
  unfold cutV cutD
  rw [r.length]
  exact (r.drop _).take _
theorem de_sl {X : Cx} {W : WX} {a : Expr} {lo hi : Option Expr} {pos p2 : Pos} {Ta : DTE} {L U : DTO} (ha : DE X W a Ta) (hl : DO X W lo L) (hu : DO X W hi U) : DE X W (.Subscript a (.Slice lo hi none p2) pos) (dSl Ta L U) :=
  wkE (pe_slice (SlR.or' sl_str (SlR.or' sl_list sl_tupA)) ha hl hu) fun σ H Q ⟨Z, ρ, M, Qd, Rd, G, h⟩ => G.seq (rel1 := Rep X.K) h fun Z1 H1 M1 v x G1 _ rx h1 =>
    G1.seq (rel1 := fun _ (b : Option Int) b' => b = b') h1 fun Z2 H2 M2 l l' G2 e2 el h2 => G2.seq (rel1 := fun _ (b : Option Int) b' => b = b') h2 fun Z3 H3 M3 u u' G3 e3 eu h3 => by
      subst el eu
      replace rx := rx.mono (e2.trans e3)
      cases x <;> first | exact h3.elim | skip
      · cases rx; exact .inl ⟨_, rfl, sz h3.1, G3.val (.str _) h3.2⟩
      · cases rx with
        | tup hz rs =>
          refine .inr (.inr ⟨_, _, rfl, SqT.of (G3.h hz), fun e => ?_, fun _ p hp => G3.new (o := .tup _) hp (.tup upd_same ((rs.cut _ _).mono (Ex.new (G3.at_.zh.free hp)))) h3⟩)
          rw [rs.length] at e
          dsimp only at h3
          unfold cutD at h3
          rw [e.1, e.2, List.drop_zero, Nat.sub_zero, List.take_length] at h3
          exact G3.val (.tup hz rs) h3
      · cases rx with
        | lst hz rs => exact .inr (.inl ⟨_, _, rfl, SqL.of (G3.h hz), fun p hp => G3.new (o := .lst _) hp (.lst upd_same ((rs.cut _ _).mono (Ex.new (G3.at_.zh.free hp)))) h3⟩)
end Dl
namespace Dl
open PySem PySem.Spec PyProof.Rows L2
/-! # Built-ins -/
abbrev BF := List D → Mem → DQ → Prop
theorem RepL.one {K : PySem.W.Frag} {Z : Hp} {vs : List V} {d : D} (r : RepL K Z vs [d]) : ∃ v, vs = [v] ∧ Rep K Z v d := by
  cases r with
  | cons r t => cases t; exact ⟨_, rfl, r⟩
theorem RepL.two {K : PySem.W.Frag} {Z : Hp} {vs : List V} {d e : D} (r : RepL K Z vs [d, e]) : ∃ v w, vs = [v, w] ∧ Rep K Z v d ∧ Rep K Z w e := by
  cases r with
  | cons r t => cases t with
    | cons q t => cases t; exact ⟨_, _, rfl, r, q⟩
/-- len(x) -/
def bLen : BF := fun xs M Q => match xs with
  | [.str z] => z.length ≤ 100000 ∧ Q (.int z.length) M
  | [.tup ds] => Q (.int ds.length) M
  | [.lst ds] => Q (.int ds.length) M
  | [.scr ns] => Q (.int ns.length) M
  | [.obj p] => ∃ ds, mget M p = some (.lst ds) ∧ Q (.int ds.length) M
  | _ => False
theorem cd_len {K : PySem.W.Frag} : CallD K (fun xs H Q => ∃ x n, xs = [x] ∧ LenV K x H n ∧ Q (.int n) H) bLen := by
  intro W σ ρ Z H M Qd Rd Q vs xs G rs h
  unfold bLen at h
  split at h <;> first | exact h.elim | skip
  all_goals (obtain ⟨v, rfl, r⟩ := rs.one)
  · cases r; exact ⟨_, _, rfl, ⟨sz h.1, rfl⟩, G.val (.int _) h.2⟩
  · cases r with
    | tup hz rl => exact ⟨_, _, rfl, .inr ⟨_, SqT.of (G.h hz), rl.length.symm⟩, G.val (.int _) h⟩
  · cases r with
    | lst hz rl => exact ⟨_, _, rfl, .inl ⟨_, SqL.of (G.h hz), rl.length.symm⟩, G.val (.int _) h⟩
  · cases r with
    | scr hz => exact ⟨_, _, rfl, .inl ⟨_, G.at_.zh.l hz, (List.length_map _).symm⟩, G.val (.int _) h⟩
  · obtain ⟨ds, e, q⟩ := h
    cases r
    obtain ⟨ys, hp, rl⟩ := G.at_.get e
    exact ⟨_, _, rfl, .inl ⟨_, SqL.of hp, rl.length.symm⟩, G.val (.int _) q⟩
/-- int(x) -/
def bInt : BF := fun xs M Q => match xs with
  | [.int i] => Q (.int i) M
  | [.bl b] => Q (.int (if b then 1 else 0)) M
  | [.str a] => ∃ n, PySem.intText? a = some n ∧ a.length ≤ 640 ∧ Q (.int n) M
  | _ => False
theorem CallR.or' {X : Cx} {f : Value} {r r' : List V → Hp → VK → Prop} (h : CallR X f r) (h' : CallR X f r') : CallR X f (fun xs H Q => r xs H Q ∨ r' xs H Q) := fun pins s σ H xs us Q I rv q => by
  rcases q with q | q
  · exact h pins s σ H xs us Q I rv q
  · exact h' pins s σ H xs us Q I rv q
def rIntU : List V → Hp → VK → Prop := fun xs H Q => ((∃ i, xs = [.int i] ∧ Q (.int i) H) ∨ ∃ k, xs = [.bl k] ∧ Q (.int (if k then 1 else 0)) H) ∨ ∃ a n, xs = [.str a] ∧ PySem.intText? a = some n ∧ a.length ≤ 640 ∧ Q (.int n) H
theorem cr_int {X : Cx} : CallR X (.type "int") rIntU := CallR.or' call_int1 call_int_str
theorem cd_int {K : PySem.W.Frag} : CallD K rIntU bInt := by
  intro W σ ρ Z H M Qd Rd Q vs xs G rs h
  unfold bInt at h
  split at h <;> first | exact h.elim | skip
  all_goals (obtain ⟨v, rfl, r⟩ := rs.one)
  · cases r; exact .inl (.inl ⟨_, rfl, G.val (.int _) h⟩)
  · cases r; exact .inl (.inr ⟨_, rfl, G.val (.int _) h⟩)
  · obtain ⟨n, h1, h2, h3⟩ := h
    cases r; exact .inr ⟨_, n, rfl, h1, h2, G.val (.int _) h3⟩
/-- str(x) -/
def bStr : BF := fun xs M Q => match xs with
  | [.int i] => i.natAbs.log2 < 1920 ∧ Q (.str (toString i)) M
  | [.str a] => Q (.str a) M
  | _ => False
def rStrU : List V → Hp → VK → Prop := fun xs H Q => (∃ i, xs = [.int i] ∧ i.natAbs.log2 < 1920 ∧ Q (.str (toString i)) H) ∨ ∃ a, xs = [.str a] ∧ Q (.str a) H
theorem cr_str {X : Cx} : CallR X (.type "str") rStrU := CallR.or' call_str_int SkE.call_str_str
theorem cd_str {K : PySem.W.Frag} : CallD K rStrU bStr := by
  intro W σ ρ Z H M Qd Rd Q vs xs G rs h
  unfold bStr at h
  split at h <;> first | exact h.elim | skip
  all_goals (obtain ⟨v, rfl, r⟩ := rs.one)
  · cases r; exact .inl ⟨_, rfl, h.1, G.val (.str _) h.2⟩
  · cases r; exact .inr ⟨_, rfl, G.val (.str _) h⟩
/-- abs(x) -/
def bAbs : BF := fun xs M Q => match xs with
  | [.int i] => Q (.int (if i < 0 then -i else i)) M
  | _ => False
theorem cd_abs {K : PySem.W.Frag} : CallD K (fun xs H Q => ∃ i, xs = [.int i] ∧ Q (.int (if i < 0 then -i else i)) H) bAbs := by
  intro W σ ρ Z H M Qd Rd Q vs xs G rs h
  unfold bAbs at h
  split at h <;> first | exact h.elim | skip
  obtain ⟨v, rfl, r⟩ := rs.one
  cases r; exact ⟨_, rfl, G.val (.int _) h⟩
/-- bool(x) -/
def bBool : BF := fun xs M Q => match xs with
  | [.int i] => Q (.bl (i != 0)) M
  | [.bl b] => Q (.bl b) M
  | _ => False
theorem cd_bool {K : PySem.W.Frag} : CallD K (fun xs H Q => (∃ i, xs = [.int i] ∧ Q (.bl (i != 0)) H) ∨ ∃ k, xs = [.bl k] ∧ Q (.bl k) H) bBool := by
  intro W σ ρ Z H M Qd Rd Q vs xs G rs h
  unfold bBool at h
  split at h <;> first | exact h.elim | skip
  all_goals (obtain ⟨v, rfl, r⟩ := rs.one)
  · cases r; exact .inl ⟨_, rfl, G.val (.bl _) h⟩
  · cases r; exact .inr ⟨_, rfl, G.val (.bl _) h⟩
/-- min, max of two, or of a list of ints -/
def bMin : BF := fun xs M Q => match xs with
  | [.int i, .int j] => Q (.int (if j < i then j else i)) M
  | [.lst ds] => ∃ ns : List Int, ds = ns.map D.int ∧ 0 < ns.length ∧ ∀ m, m ∈ ns → (∀ y, y ∈ ns → m ≤ y) → Q (.int m) M
  | _ => False
def bMax : BF := fun xs M Q => match xs with
  | [.int i, .int j] => Q (.int (if j > i then j else i)) M
  | [.lst ds] => ∃ ns : List Int, ds = ns.map D.int ∧ 0 < ns.length ∧ ∀ m, m ∈ ns → (∀ y, y ∈ ns → y ≤ m) → Q (.int m) M
  | _ => False
def rMinU (K : PySem.W.Frag) : List V → Hp → VK → Prop := fun xs H Q => (∃ i j, xs = [.int i, .int j] ∧ Q (.int (if j < i then j else i)) H) ∨ rMin K xs H Q
def rMaxU (K : PySem.W.Frag) : List V → Hp → VK → Prop := fun xs H Q => (∃ i j, xs = [.int i, .int j] ∧ Q (.int (if j > i then j else i)) H) ∨ rMax K xs H Q
theorem cr_minU {X : Cx} (hc : X.calm = true) : CallR X (.builtin "min") (rMinU X.K) := CallR.or' (call_min2 hc) (cr_min hc)
theorem cr_maxU {X : Cx} (hc : X.calm = true) : CallR X (.builtin "max") (rMaxU X.K) := CallR.or' (call_max2 hc) (cr_max hc)
theorem cd_min {K : PySem.W.Frag} : CallD K (rMinU K) bMin := by
  intro W σ ρ Z H M Qd Rd Q vs xs G rs h
  unfold bMin at h
  split at h <;> first | exact h.elim | skip
  · obtain ⟨v, w, rfl, r, r'⟩ := rs.two
    cases r; cases r'; exact .inl ⟨_, _, rfl, G.val (.int _) h⟩
  · obtain ⟨v, rfl, r⟩ := rs.one
    obtain ⟨ns, rfl, h1, h2⟩ := h
    cases r with
    | lst hz rl => exact .inr ⟨_, ns, rfl, by rw [← rl.ints]; exact SqL.of (G.h hz), h1, fun m a b => G.val (.int _) (h2 m a b)⟩
theorem cd_max {K : PySem.W.Frag} : CallD K (rMaxU K) bMax := by
  intro W σ ρ Z H M Qd Rd Q vs xs G rs h
  unfold bMax at h
  split at h <;> first | exact h.elim | skip
  · obtain ⟨v, w, rfl, r, r'⟩ := rs.two
    cases r; cases r'; exact .inl ⟨_, _, rfl, G.val (.int _) h⟩
  · obtain ⟨v, rfl, r⟩ := rs.one
    obtain ⟨ns, rfl, h1, h2⟩ := h
    cases r with
    | lst hz rl => exact .inr ⟨_, ns, rfl, by rw [← rl.ints]; exact SqL.of (G.h hz), h1, fun m a b => G.val (.int _) (h2 m a b)⟩
/-- all, any of a list of bools; sum of a list of ints -/
def bAll : BF := fun xs M Q => match xs with
  | [.lst ds] => ∃ bs : List Bool, ds = bs.map D.bl ∧ Q (.bl (bs.all id)) M
  | _ => False
def bAny : BF := fun xs M Q => match xs with
  | [.lst ds] => ∃ bs : List Bool, ds = bs.map D.bl ∧ Q (.bl (bs.any id)) M
  | _ => False
def bSum : BF := fun xs M Q => match xs with
  | [.lst ds] => ∃ ns : List Int, ds = ns.map D.int ∧ Q (.int ns.sum) M
  | _ => False
theorem cd_all {K : PySem.W.Frag} : CallD K (rAll K) bAll := by
  intro W σ ρ Z H M Qd Rd Q vs xs G rs h
  unfold bAll at h
  split at h <;> first | exact h.elim | skip
  obtain ⟨v, rfl, r⟩ := rs.one
  obtain ⟨ns, rfl, h1⟩ := h
  cases r with
  | lst hz rl => exact ⟨_, ns, rfl, by rw [← rl.bls]; exact SqL.of (G.h hz), G.val (.bl _) h1⟩
theorem cd_any {K : PySem.W.Frag} : CallD K (rAny K) bAny := by
  intro W σ ρ Z H M Qd Rd Q vs xs G rs h
  unfold bAny at h
  split at h <;> first | exact h.elim | skip
  obtain ⟨v, rfl, r⟩ := rs.one
  obtain ⟨ns, rfl, h1⟩ := h
  cases r with
  | lst hz rl => exact ⟨_, ns, rfl, by rw [← rl.bls]; exact SqL.of (G.h hz), G.val (.bl _) h1⟩
theorem cd_sum {K : PySem.W.Frag} : CallD K (rSum K) bSum := by
  intro W σ ρ Z H M Qd Rd Q vs xs G rs h
  unfold bSum at h
  split at h <;> first | exact h.elim | skip
  obtain ⟨v, rfl, r⟩ := rs.one
  obtain ⟨ns, rfl, h1⟩ := h
  cases r with
  | lst hz rl => exact ⟨_, ns, rfl, by rw [← rl.ints]; exact SqL.of (G.h hz), G.val (.int _) h1⟩
/-- list(x), tuple(x) of a list or a tuple -/
def bList : BF := fun xs M Q => match xs with
  | [.lst ds] => Q (.lst ds) M
  | [.tup ds] => Q (.lst ds) M
  | [.obj p] => ∃ ds, mget M p = some (.lst ds) ∧ Q (.lst ds) M
  | _ => False
def bTuple : BF := fun xs M Q => match xs with
  | [.lst ds] => Q (.tup ds) M
  | [.tup ds] => Q (.tup ds) M
  | _ => False
def rListO (K : PySem.W.Frag) : List V → Hp → VK → Prop := fun xs H Q => ∃ p ys, xs = [.ref p] ∧ (SqL K H p ys ∨ SqT K H p ys) ∧ ∀ l, H l = none → Q (.ref l) (upd H l (.lst ys))
def rTupO (K : PySem.W.Frag) : List V → Hp → VK → Prop := fun xs H Q => ∃ p ys, xs = [.ref p] ∧ ((SqL K H p ys ∧ ∀ l, H l = none → Q (.ref l) (upd H l (.tup ys))) ∨ (SqT K H p ys ∧ Q (.ref p) H))
theorem cd_list {K : PySem.W.Frag} : CallD K (rListO K) bList := by
  intro W σ ρ Z H M Qd Rd Q vs xs G rs h
  unfold bList at h
  split at h <;> first | exact h.elim | skip
  all_goals (obtain ⟨v, rfl, r⟩ := rs.one)
  · cases r with
    | lst hz rl => exact ⟨_, _, rfl, .inl (SqL.of (G.h hz)), fun p hp => G.new (o := .lst _) hp (.lst upd_same (rl.mono (Ex.new (G.at_.zh.free hp)))) h⟩
  · cases r with
    | tup hz rl => exact ⟨_, _, rfl, .inr (SqT.of (G.h hz)), fun p hp => G.new (o := .lst _) hp (.lst upd_same (rl.mono (Ex.new (G.at_.zh.free hp)))) h⟩
  · obtain ⟨ds, e, q⟩ := h
    cases r
    obtain ⟨ys, hp0, rl⟩ := G.at_.get e
    exact ⟨_, _, rfl, .inl (SqL.of hp0), fun p hp => G.new (o := .lst _) hp (.lst upd_same (rl.mono (Ex.new (G.at_.zh.free hp)))) q⟩
theorem cd_tuple {K : PySem.W.Frag} : CallD K (rTupO K) bTuple := by
  intro W σ ρ Z H M Qd Rd Q vs xs G rs h
  unfold bTuple at h
  split at h <;> first | exact h.elim | skip
  all_goals (obtain ⟨v, rfl, r⟩ := rs.one)
  · cases r with
    | lst hz rl => exact ⟨_, _, rfl, .inl ⟨SqL.of (G.h hz), fun p hp => G.new (o := .tup _) hp (.tup upd_same (rl.mono (Ex.new (G.at_.zh.free hp)))) h⟩⟩
  · cases r with
    | tup hz rl => exact ⟨_, _, rfl, .inr ⟨SqT.of (G.h hz), G.val (.tup hz rl) h⟩⟩
/-! ### sorted(x), any length -/
def D.leS (a b : D) : Bool := !PySem.W.dataLt b.py a.py
def rSortD (K : PySem.W.Frag) : List V → Hp → VK → Prop := fun vs H Q => ∃ (a : Addr) (ps : List (V × D)), vs = [.ref a] ∧ SqL K H a (ps.map (·.1)) ∧ (∀ p ∈ ps, Dp K H p.1 p.2.py) ∧ PySem.W.AllAlike (ps.map fun p => p.2.py) ∧ PySem.W.Sortable (ps.map fun p => p.2.py) ∧
  (∀ p ∈ ps, p.2.py.depth ≤ 64) ∧ ∀ q, H q = none → Q (.ref q) (upd H q (.lst ((ps.mergeSort (PySem.W.dataLe false fun p => p.2.py)).map (·.1))))
theorem each_of {K : PySem.W.Frag} : ∀ {ps : List (V × D)} {us : List Value}, Vals (ps.map (·.1)) us → PySem.W.EachIs (fun u (p : V × D) => RelV p.1 u) us ps
  | [], _, .nil => .nil
  | p :: ps, _, .cons r t => .cons r (each_of (K := K) t)
theorem each_back : ∀ {ps : List (V × D)} {us : List Value}, PySem.W.EachIs (fun u (p : V × D) => RelV p.1 u) us ps → Vals (ps.map (·.1)) us
  | [], _, .nil => .nil
  | p :: ps, _, .cons r t => .cons r (each_back t)
theorem each_reads {X : Cx} {pins : List (Addr × Obj)} {σ : L2.St} {H : Hp} {s : Shared} (I : Inv X pins σ H s) : ∀ {ps : List (V × D)} {us : List Value}, Vals (ps.map (·.1)) us → (∀ p ∈ ps, Dp X.K H p.1 p.2.py) → PySem.W.EachIs (fun u (p : V × D) => ∃ as, Reads s.heap u p.2.py as) us ps
  | [], _, .nil, _ => .nil
  | p :: ps, _, .cons r t, h => .cons (Dp.reads I _ _ _ (h p (List.mem_cons_self ..)) r) (each_reads I t fun q hq => h q (List.mem_cons_of_mem _ hq))
theorem cr_sortD {X : Cx} (hu : X.A.units + 70 < cLine) : CallR X (.builtin "sorted") (rSortD X.K) := by
  intro pins s σ H vs us Q I r h
  obtain ⟨a, ps, rfl, hs, hd, al, so, dp, q⟩ := h
  obtain ⟨its, rv, hl, hz⟩ := I.list hs
  rw [Vals.ref1 r]
  have hlen : ps.length ≤ sizeLine := by simpa using hz
  refine PySem.W.sorted_data (bs := ps) (enc := fun p => p.2.py) hl.isList (each_of (K := X.K) rv) (each_reads I rv hd) al so hlen (fun b hb => by have := dp b hb; omega) fun out h1 h2 => ?_
  obtain ⟨ep, he'⟩ := PyProof.Rows.sortedAll_at s.heap its out.toArray
  have hlen' : ((ps.mergeSort (PySem.W.dataLe false fun p => p.2.py)).map (·.1)).length ≤ sizeLine := by
    rw [List.length_map, List.length_mergeSort]; exact hlen
  exact ⟨.ref _, upd H (s.heap.objs.size + 1) (.lst ((ps.mergeSort (PySem.W.dataLe false fun p => p.2.py)).map (·.1))), I.laid (t' := s.toks) (fun _ _ => PyProof.Rows.sortedAll_old) (Nat.le_succ _) ⟨hlen', out, ep, each_back h2, he'⟩, rfl, q _ (I.hok.fresh (Nat.le_succ _))⟩
theorem repL_pairs {K : PySem.W.Frag} {Z : Hp} : ∀ {vs : List V} {ds : List D}, RepL K Z vs ds → ∃ ps : List (V × D), ps.map (·.1) = vs ∧ ps.map (·.2) = ds ∧ ∀ p ∈ ps, Rep K Z p.1 p.2
  | _, _, .nil => ⟨[], rfl, rfl, fun _ h => by cases h⟩
  | _, _, .cons (v := v) (d := d) r t => by
    obtain ⟨ps, h1, h2, h3⟩ := repL_pairs t
    refine ⟨(v, d) :: ps, by rw [List.map_cons, h1], by rw [List.map_cons, h2], fun p hp => ?_⟩
    rcases List.mem_cons.mp hp with e | e
    · rw [e]; exact r
    · exact h3 p e
theorem pairs_repL {K : PySem.W.Frag} {Z : Hp} : ∀ {ps : List (V × D)}, (∀ p ∈ ps, Rep K Z p.1 p.2) → RepL K Z (ps.map (·.1)) (ps.map (·.2))
  | [], _ => .nil
  | p :: ps, h => .cons (h p (List.mem_cons_self ..)) (pairs_repL fun q hq => h q (List.mem_cons_of_mem _ hq))
/-- what can be sorted: alike data -/
def SortOk (ds : List D) : Prop := (∀ d ∈ ds, d.ok) ∧ PySem.W.AllAlike (ds.map D.py) ∧ PySem.W.Sortable (ds.map D.py)
def sortD (ds : List D) : List D := ds.mergeSort D.leS
theorem sortD_pairs (ps : List (V × D)) : (ps.mergeSort (PySem.W.dataLe false fun p => p.2.py)).map (·.2) = sortD (ps.map (·.2)) := by
  unfold sortD
  refine List.map_mergeSort fun a _ b _ => ?_
  rw [PySem.W.dataLe_eq]; rfl
def bSorted : BF := fun xs M Q => match xs with
  | [.lst ds] => SortOk ds ∧ Q (.lst (sortD ds)) M
  | [.obj p] => ∃ ds, mget M p = some (.lst ds) ∧ SortOk ds ∧ Q (.lst (sortD ds)) M
  | _ => False
theorem sort_fin {K : PySem.W.Frag} {W : WX} {σ : L2.St} {ρ : Env} {Z H : Hp} {M : Mem} {Qd : DQ} {Rd : DR} {Q : VK} {a : Addr} {ys : List V} {ds : List D} (G : Go K W (Rep K) σ ρ Z H M Qd Rd Q) (hs : SqL K H a ys) (rl : RepL K Z ys ds) (so : SortOk ds) (q : Qd (.lst (sortD ds)) M) : rSortD K [.ref a] H Q := by
  obtain ⟨ps, h1, h2, h3⟩ := repL_pairs rl
  obtain ⟨s1, s2, s3⟩ := so
  have e : ds.map D.py = ps.map fun p => p.2.py := by rw [← h2, List.map_map]; rfl
  rw [e] at s2 s3
  have ok : ∀ p ∈ ps, p.2.ok := fun p hp => s1 _ (by rw [← h2]; exact List.mem_map.mpr ⟨p, hp, rfl⟩)
  refine ⟨a, ps, rfl, by rw [h1]; exact hs, fun p hp => (h3 p hp).dp G.at_.zh (SeqAt.canLay_of_shaped (ok p hp)), s2, s3, fun p hp => ?_, fun t ht => ?_⟩
  · have z := ok p hp
    unfold D.ok SeqAt.shaped at z
    simpa using (by simpa using z : _ ∧ _).2
  · refine G.new (o := .lst _) ht (.lst upd_same ?_) q
    rw [← h2, ← sortD_pairs]
    exact (pairs_repL fun p hp => h3 p (List.mem_mergeSort.mp hp)).mono (Ex.new (G.at_.zh.free ht))
theorem cd_sorted {K : PySem.W.Frag} : CallD K (rSortD K) bSorted := by
  intro W σ ρ Z H M Qd Rd Q vs xs G rs h
  unfold bSorted at h
  split at h <;> first | exact h.elim | skip
  all_goals (obtain ⟨v, rfl, r⟩ := rs.one)
  · cases r with
    | lst hz rl => exact sort_fin G (SqL.of (G.h hz)) rl h.1 h.2
  · obtain ⟨ds, e, h1, h2⟩ := h
    cases r
    obtain ⟨ys, hp0, rl⟩ := G.at_.get e
    exact sort_fin G (SqL.of hp0) rl h1 h2
end Dl
namespace Dl
open PySem PySem.Spec PyProof.Rows L2
/-! # What changes; texts; isinstance -/
/-- x.append(y) -/
def dApp (a b : DTE) : DTE := fun ρ M Q R => a ρ M (fun x M1 => ∃ p ds0, x = .obj p ∧ mget M1 p = some (.lst ds0) ∧ b ρ M1 (fun y M2 => ∃ ds, mget M2 p = some (.lst ds) ∧ ds.length < 100000 ∧ Q .non (mset M2 p (.lst (ds ++ [y])))) R) R
/-- x[i] = y: on a list of two that draws are made from, on a dict -/
def qPut (x k y : D) (M : Mem) (Q : Mem → Prop) : Prop := match x with
  | .obj p => match mget M p with
    | some .can => ∃ n, y = .int n ∧ 0 ≤ n ∧ (k = .int 0 ∨ (k = .int 1 ∧ n ≤ 2147483237)) ∧ Q M
    | some (.dK kvs) => ∃ kk, k.key = some kk ∧ kvs.length < 100000 ∧ Q (mset M p (.dK (putD kvs kk y)))
    | some (.dT kvs) => ∃ kk, k.keyT = some kk ∧ kvs.length < 100000 ∧ Q (mset M p (.dT (putD kvs kk y)))
    | some (.lst ds) => ∃ n j, k = .int n ∧ ixN ds.length n = some j ∧ Q (mset M p (.lst (ds.set j y)))
    | _ => False
  | _ => False
def dPut (o i v : DTE) : DTS := fun E ρ M R => v ρ M (fun y M1 => o ρ M1 (fun x M2 => i ρ M2 (fun k M3 => qPut x k y M3 (fun M4 => E.nx ρ M4)) R) R) R
/-- text methods of one text -/
def dM1 (f : Str → D → Mem → DQ → Prop) (a b : DTE) : DTE := fun ρ M Q R => a ρ M (fun x M1 => ∃ z, x = .str z ∧ b ρ M1 (fun y M2 => f z y M2 Q) R) R
def mJoin (z : Str) (y : D) (M : Mem) (Q : DQ) : Prop := ∃ ys : List Str, y = .lst (ys.map D.str) ∧ ((ys.map (·.length)).sum + ys.length * z.length ≤ 16777216) ∧ Q (.str (Txt.join z ys)) M
def mSplit (z : Str) (y : D) (M : Mem) (Q : DQ) : Prop := ∃ b, y = .str b ∧ (b.length == 0) = false ∧ z.length ≤ 100000 ∧ Q (.lst ((Txt.split z b).map D.str)) M
def mCount (z : Str) (y : D) (M : Mem) (Q : DQ) : Prop := ∃ b, y = .str b ∧ Q (.int (Txt.count z b)) M
/-- {x} in a text -/
def dFmt (a : DTE) : DTE := fun ρ M Q R => a ρ M (fun x M1 => (∃ z, x = .str z ∧ z.length ≤ 100000 ∧ Q (.str z) M1) ∨ ∃ i : Int, x = .int i ∧ i.natAbs.log2 < 1920 ∧ Q (.str (toString i)) M1) R
def dJs : List DTE → Str → Dl.Env → Mem → DQ → DR → Prop
  | [], acc, _, M, Q, _ => Q (.str acc) M
  | t :: ts, acc, ρ, M, Q, R => t ρ M (fun x M1 => ∃ y : Str, x = .str y ∧ (acc ++ y).length ≤ 100000 ∧ dJs ts (acc ++ y) ρ M1 Q R) R
def dJoined (ts : List DTE) : DTE := fun ρ M Q R => dJs ts Str.empty ρ M Q R
/-! isinstance -/
def D.ty : D → Option String
  | .non => some "NoneType" | .bl _ => some "bool" | .int _ => some "int" | .str _ => some "str" | .tup _ => some "tuple" | .lst _ => some "list" | _ => none
def D.isInt : D → Bool
  | .bl _ => true | .int _ => true | _ => false
def D.isBool : D → Bool
  | .bl _ => true | _ => false
def D.isStr : D → Bool
  | .str _ => true | _ => false
def D.isTup : D → Bool
  | .tup _ => true | _ => false
def D.isLst : D → Bool
  | .lst _ => true | _ => false
def dIsi (f : D → Bool) (a : DTE) : DTE := fun ρ M Q R => a ρ M (fun x M1 => x.ty.isSome = true ∧ Q (.bl (f x)) M1) R
/-- f tells the type named T -/
def IsTy (T : String) (f : D → Bool) : Prop := ∀ (d : D) (s : String), d.ty = some s → kitB s T = some (f d)
theorem isty_int : IsTy "int" D.isInt := fun d s h => by cases d <;> cases h <;> (dsimp only [D.isInt]; decide +kernel)
theorem isty_bool : IsTy "bool" D.isBool := fun d s h => by cases d <;> cases h <;> (dsimp only [D.isBool]; decide +kernel)
theorem isty_str : IsTy "str" D.isStr := fun d s h => by cases d <;> cases h <;> (dsimp only [D.isStr]; decide +kernel)
theorem isty_tup : IsTy "tuple" D.isTup := fun d s h => by cases d <;> cases h <;> (dsimp only [D.isTup]; decide +kernel)
theorem isty_lst : IsTy "list" D.isLst := fun d s h => by cases d <;> cases h <;> (dsimp only [D.isLst]; decide +kernel)
section
variable {K : PySem.W.Frag}
theorem ty_rep {Z H : Hp} {v : V} {d : D} {s : String} (e : Ex Z H) (r : Rep K Z v d) (h : d.ty = some s) : TyX K H v (.type s) := by
  cases r <;> cases h
  · exact .base .non
  · exact .base (.bl _)
  · exact .base (.int _)
  · exact .base (.str _)
  · exact .base (.tup (e _ _ ‹_›))
  · exact .base (.lst (e _ _ ‹_›))
end
section
variable {X : Cx} {W : WX} {a b c e e1 e2 o i : Expr} {es : List Expr} {pos p apos cpos p2 pos' : Pos} {Ta Tb Tc : DTE} {TA : DTA}
theorem de_app (ha : DE X W a Ta) (hb : DE X W b Tb) (hbase : attributeBase a "append" X.env (eval a X.env) = eval a X.env := by rfl)
    (hfew : ((backTo cpos (starEach [b] X.env)).all (fun x => !x.1) && (backToKw cpos (keywordEach [] X.env)).all (fun x => x.1.isSome)
      && decide (([b] : List Expr).length + ([] : List Keyword).length + (if ([] : List Keyword).isEmpty then 0 else 1) < 30)) = true := by rfl)
    (hline : (apos.endLine == cpos.line) = true := by rfl) (hs : starEach [b] X.env = (false, eval b X.env) :: starEach [] X.env := by rfl) :
    DE X W (.Call (.Attribute a "append" apos) [b] [] cpos) (dApp Ta Tb) :=
  wkE (pe_bm PySem.F.plainAttrs_list PySem.F.slot_list_append PySem.F.type_list_append mt_append ha (pa_cons hb pa_nil hs) hbase hfew hline hs rfl) fun σ H Q ⟨Z, ρ, M, Qd, Rd, G, h⟩ => G.seq (rel1 := Rep X.K) h fun Z1 H1 M1 v x G1 _ rx h1 => by
    obtain ⟨q, ds0, rfl, e0, h1⟩ := h1
    cases rx
    obtain ⟨xs0, hp0, _⟩ := G1.at_.get e0
    refine ⟨.inl ⟨rfl, xs0, .inl (.inl hp0)⟩, ?_⟩
    refine G1.seq (rel1 := Rep X.K) h1 fun Z2 H2 M2 w y G2 _ ry h2 => ?_
    obtain ⟨ds, e1, hl, h2⟩ := h2
    obtain ⟨xs, hp, rs⟩ := G2.at_.get e1
    have hlen := rs.length
    have big : (100000 : Nat) < sizeLine := by decide
    exact ⟨q, xs, w, rfl, rfl, hp, by omega, G2.write (m' := .lst (ds ++ [y])) e1 ⟨_, upd_same, rs.append (.cons ry .nil)⟩ .non h2⟩
def rPutU : TSet := fun o i v H Q => rSetL o i v H Q ∨ ∃ a H4, o = .ref a ∧ DPut H a i v H4 ∧ Q H4
theorem or_put (hu : X.A.units + 1 < cLine) : PSet X rPutU := by
  intro pins s σ H o i v ov iv u Q I ro ri rv h
  rcases h with h | ⟨a, H4, rfl, g, q⟩
  · exact set_list pins s σ H o i v ov iv u Q I ro ri rv h
  · obtain rfl : ov = Value.ref a := ro
    exact d_setItem hu I g ri rv fun s4 I4 => ⟨H4, I4, q⟩
theorem put_ok {K : PySem.W.Frag} {σ : L2.St} {ρ : Dl.Env} {Z H : Hp} {M : Mem} {Qd : Mem → Prop} {Q : Hp → Prop} {x k y : D} {vo vi vv : V} (at_ : At K Z H σ ρ M) (rx : Rep K Z vo x) (rk : Rep K Z vi k) (ry : Rep K Z vv y)
    (h : qPut x k y M Qd) (kk : ∀ H' M', Gr Z H M Z H' M' → At K Z H' σ ρ M' → Qd M' → Q H') : rPutU vo vi vv H Q := by
  cases x <;> first | exact h.elim | skip
  rename_i q
  cases rx
  dsimp only [qPut] at h
  have big : (100000 : Nat) < sizeLine := by decide
  cases e : mget M q with
  | none => rw [e] at h; exact h.elim
  | some m =>
    rw [e] at h
    cases m with
    | lst ds =>
      obtain ⟨n, j, rfl, hj, q1⟩ := h
      cases rk
      obtain ⟨xs, hp, rs⟩ := at_.get e
      obtain ⟨g, a'⟩ := at_.write (o := .lst (xs.set j vv)) (m' := .lst (ds.set j y)) e ⟨_, upd_same, rs.set ry j⟩
      exact .inl ⟨_, xs, n, j, rfl, rfl, hp, by rw [rs.length]; exact hj, kk _ _ g a' q1⟩
    | can =>
      obtain ⟨n, rfl, h0, hk, q1⟩ := h
      cases ry
      obtain ⟨a0, b0, hp, c1, c2, c3⟩ := at_.get e
      have same : mset M q .can = M := by
        clear h0 hk q1 hp c1 c2 c3 kk rk at_
        induction M with
        | nil => rfl
        | cons z r ih =>
          unfold mget at e
          unfold mset
          by_cases ez : z.1 = q
          · rw [if_pos ez] at e ⊢
            obtain ⟨z1, z2⟩ := z
            have e2 : z2 = .can := Option.some.inj e
            have e3 : z1 = q := ez
            rw [e2, e3]
          · rw [if_neg ez] at e ⊢
            rw [ih e]
      rcases hk with rfl | ⟨rfl, hk⟩
      · cases rk
        obtain ⟨g, a'⟩ := at_.write (o := .lst [.int n, .int b0]) (m' := .can) e ⟨n, b0, upd_same, h0, c2, c3⟩
        rw [same] at g a'
        exact .inl ⟨_, _, 0, 0, rfl, rfl, hp, rfl, kk _ _ g a' q1⟩
      · cases rk
        obtain ⟨g, a'⟩ := at_.write (o := .lst [.int a0, .int n]) (m' := .can) e ⟨a0, n, upd_same, c1, h0, hk⟩
        rw [same] at g a'
        exact .inl ⟨_, _, 1, 1, rfl, rfl, hp, rfl, kk _ _ g a' q1⟩
    | dK kvs =>
      obtain ⟨k', hk, hl, q1⟩ := h
      obtain ⟨kv, hp, al⟩ := at_.get e
      obtain ⟨g, a'⟩ := at_.write (o := .dK (putK kv k' vv)) (m' := .dK (putD kvs k' y)) e ⟨_, upd_same, putD_rep k' al ry⟩
      have hlen := al.length
      exact .inr ⟨_, _, rfl, .inl ⟨kv, k', hp, key_rep rk hk, by omega, rfl⟩, kk _ _ g a' q1⟩
    | dT kvs =>
      obtain ⟨k', hk, hl, q1⟩ := h
      obtain ⟨kv, hp, al⟩ := at_.get e
      obtain ⟨g, a'⟩ := at_.write (o := .dT (putK kv k' vv)) (m' := .dT (putD kvs k' y)) e ⟨_, upd_same, putD_rep k' al ry⟩
      obtain ⟨b', eb, hb⟩ := keyT_rep rk hk
      have hlen := al.length
      exact .inr ⟨_, _, rfl, .inr ⟨kv, k', b', hp, eb, at_.zh _ _ hb, by omega, rfl⟩, kk _ _ g a' q1⟩
    | ins c fs => exact h.elim
theorem ds_put (hu : X.A.units + 1 < cLine) (ho : DE X W o Ta) (hi : DE X W i Tb) (hv : DE X W e Tc) (hs : swapsWithSole [.Subscript o i pos'] e pos.line X.env = pure false := by rfl) (hw : swappedStores [.Subscript o i pos'] e X.env = pure none := by rfl)
    (h1 : (assignEach [.Subscript o i pos'] X.env).map (·.2) = [assign (.Subscript o i pos') X.env] := by rfl)
    (ha : ∀ v, assign (.Subscript o i pos') X.env v = (do
      let ov ← holding [v] (eval o X.env)
      let iv ← holding [v, ov] (eval i X.env)
      standAt pos'
      holding [v, ov, iv] (setItem ov iv v)
      release [v, ov, iv] []) := by intro _; rfl) : DS X W (.Assign [.Subscript o i pos'] e pos) (dPut Ta Tb Tc) :=
  wkS (ps_asg hv (pg_sub ho hi (or_put hu) ha) hs hw h1) fun D σ H ⟨Z, ρ, M, E, Rd, G, h⟩ => G.seq (rel1 := Rep X.K) h fun Z1 H1 M1 vv y G1 g1 ry h1 =>
    G1.seq (rel1 := Rep X.K) h1 fun Z2 H2 M2 vo x G2 g2 rx h2 => G2.seq (rel1 := Rep X.K) h2 fun Z3 H3 M3 vi k G3 g3 rk h3 =>
      put_ok (Qd := fun M4 => E.nx ρ M4) G3.at_ (rx.mono g3.zz) rk (ry.mono (g2.zz.trans g3.zz)) h3 fun H' M' g a q => G3.nx Z3 H' M' σ ρ g a q
/-! texts -/
theorem m1_ok {K : PySem.W.Frag} {f : Str → D → Mem → DQ → Prop} {r : V → List V → Hp → VK → Prop} {to te : TE}
    (hf : ∀ {W : WX} {σ : L2.St} {ρ : Dl.Env} {Z H : Hp} {M : Mem} {Qd : DQ} {Rd : DR} {Q : VK} {z : Str} {w : V} {y : D}, Go K W (Rep K) σ ρ Z H M Qd Rd Q → Rep K Z w y → f z y M Qd → r (.str z) [w] H Q)
    (wo : ∀ σ H Q, lE K W Ta σ H Q → to σ H Q) (we : ∀ σ H Q, lE K W Tb σ H Q → te σ H Q) {σ : L2.St} {H : Hp} {Q : VK} (h : lE K W (dM1 f Ta Tb) σ H Q) : tM1 r to te σ H Q := by
  obtain ⟨Z, ρ, M, Qd, Rd, G, h⟩ := h
  refine wo _ _ _ (G.seq (rel1 := Rep K) h fun Z1 H1 M1 v x G1 _ rx h1 => ?_)
  obtain ⟨z, rfl, h1⟩ := h1
  cases rx
  exact ⟨⟨z, rfl⟩, we _ _ _ (G1.seq (rel1 := Rep K) h1 fun Z2 H2 M2 w y G2 _ ry h2 => hf G2 ry h2)⟩
theorem de_join (ho : DE X W o Ta) (he : DE X W e Tb) (hs : starEach [e] X.env = [(false, eval e X.env)] := by rfl) (hbase : attributeBase o "join" X.env (eval o X.env) = eval o X.env := by rfl) (hline : (apos.endLine == pos.line) = true := by rfl) :
    DE X W (.Call (.Attribute o "join" apos) [e] [] pos) (dM1 mJoin Ta Tb) :=
  wkE (pe_join ho he hs hbase hline) fun σ H Q h => m1_ok (fun G ry h => by
    obtain ⟨ys, rfl, h1, h2⟩ := h
    cases ry with
    | lst hz rl => exact ⟨_, _, ys, rfl, rfl, .inl (by rw [← rl.strs]; exact SqL.of (G.h hz)), h1, G.val (.str _) h2⟩) (fun _ _ _ q => q) (fun _ _ _ q => q) h
theorem de_split (ho : DE X W o Ta) (he : DE X W e Tb) (hs : starEach [e] X.env = [(false, eval e X.env)] := by rfl) (hbase : attributeBase o "split" X.env (eval o X.env) = eval o X.env := by rfl) (hline : (apos.endLine == pos.line) = true := by rfl) :
    DE X W (.Call (.Attribute o "split" apos) [e] [] pos) (dM1 mSplit Ta Tb) :=
  wkE (pe_split ho he hs hbase hline) fun σ H Q h => m1_ok (fun G ry h => by
    obtain ⟨b, rfl, h1, h2, h3⟩ := h
    cases ry
    exact ⟨_, b, rfl, rfl, h1, by have : (100002 : Nat) ≤ sizeLine := by decide
                                  omega, fun p hp => G.new (o := .lst _) hp (.lst upd_same (repL_strs _)) h3⟩) (fun _ _ _ q => q) (fun _ _ _ q => q) h
theorem de_fmt (he : DE X W e Ta) : DE X W (.FormattedValue e (-1) none pos) (dFmt Ta) :=
  wkE (pe_fmt he) fun σ H Q ⟨Z, ρ, M, Qd, Rd, G, h⟩ => G.seq (rel1 := Rep X.K) h fun Z1 H1 M1 v x G1 _ rx h1 => by
    rcases h1 with ⟨z, rfl, hl, q⟩ | ⟨i, rfl, hl, q⟩
    · cases rx; exact .inl ⟨z, rfl, sz hl, G1.val (.str _) q⟩
    · cases rx; exact .inr ⟨i, rfl, hl, G1.val (.str _) q⟩
inductive DJ (X : Cx) (W : WX) : List Expr → List DTE → List TE → Prop where
  | nil : DJ X W [] [] []
  | cons {e : Expr} {T : DTE} {es : List Expr} {Ts : List DTE} {ts : List TE} (h : DE X W e T) (r : DJ X W es Ts ts) : DJ X W (e :: es) (T :: Ts) (lE X.K W T :: ts)
theorem DJ.pj {es : List Expr} {Ts : List DTE} {ts : List TE} : DJ X W es Ts ts → PJ X es ts
  | .nil => .nil
  | .cons h r => .cons h r.pj
theorem DJ.ok {es : List Expr} {Ts : List DTE} {ts : List TE} (j : DJ X W es Ts ts) : ∀ {σ : L2.St} {ρ : Dl.Env} {Z H : Hp} {M : Mem} {Qd : DQ} {Rd : DR} {Q : VK} {acc : Str}, Go X.K W (Rep X.K) σ ρ Z H M Qd Rd Q → dJs Ts acc ρ M Qd Rd → tJs ts acc σ H fun out H1 => Q (.str out) H1 := by
  induction j with
  | nil => intro σ ρ Z H M Qd Rd Q acc G h; exact G.val (.str _) h
  | cons hh r ih =>
    intro σ ρ Z H M Qd Rd Q acc G h
    refine G.seq (rel1 := Rep X.K) h fun Z1 H1 M1 v x G1 _ rx h1 => ?_
    obtain ⟨y, rfl, hl, q⟩ := h1
    cases rx
    exact ⟨y, rfl, sz hl, ih G1 q⟩
theorem de_joined {v1 v2 : Expr} {rest : List Expr} {Ts : List DTE} {ts : List TE} (h : DJ X W (v1 :: v2 :: rest) Ts ts) : DE X W (.JoinedStr (v1 :: v2 :: rest) pos) (dJoined Ts) :=
  wkE (pe_joined h.pj) fun σ H Q ⟨Z, ρ, M, Qd, Rd, G, q⟩ => h.ok G q
/-! isinstance -/
theorem de_isi {x : Str} {T : String} {f : D → Bool} (hT : IsTy T f) (hv : bootBuiltins x = some (.type T)) (he : DE X W e Ta) (hm1 : X.mg "isinstance" = none) (hm2 : X.mg x = none) (hg1 : Gl X "isinstance" := by rfl) (hg2 : Gl X x := by rfl)
    (hn : x ≠ "__name__" := by decide) (hd : (x == ("__debug__" : Str)) = false := by decide)
    (hs : starEach [e, .Name x p2] X.env = (false, eval e X.env) :: starEach [.Name x p2] X.env := by rfl) (hs2 : starEach [.Name x p2] X.env = (false, eval (.Name x p2) X.env) :: starEach [] X.env := by rfl)
    (hpl : (backTo pos (starEach [.Name x p2] X.env)).any (·.1) = false := by rfl) :
    DE X W (.Call (.Name "isinstance" p) [e, .Name x p2] [] pos) (dIsi f Ta) :=
  wkE (pe_callB call_isi hg1 hm1 (by decide +kernel) (pa_cons he (pa_cons (pe_bltn hg2 hm2 hv (v := .ty T) rfl hn hd) pa_nil hs2) hs) (by decide) (by decide) hs hpl) fun σ H Q ⟨Z, ρ, M, Qd, Rd, G, h⟩ =>
    G.seq (rel1 := Rep X.K) h fun Z1 H1 M1 v x G1 _ rx h1 => by
      obtain ⟨h0, q⟩ := h1
      obtain ⟨s, hs⟩ := Option.isSome_iff_exists.mp h0
      exact ⟨v, .ty T, _, _, _, rfl, .ty T, ty_rep G1.at_.zh rx hs, kit_ty (hT _ _ hs), G1.val (.bl _) q⟩
end
end Dl
namespace Dl
open PySem PySem.Spec PyProof.Rows L2
/-! # What is walked -/
/-! ### range of ints of any size -/
theorem turn_long {P : Program} {w : World} {K : PySem.W.Frag} {tg : Expr} (it : Addr) (lo : Int) (n : Nat) : Turn P w K tg (Itr lo n) [it] it (fun i h => IsLongIter h it (lo + (i : Nat) * 1) ((n : Int) - (i : Nat)) 1) where
  mem := by simp
  obj := fun i h st b hb => by
    cases List.mem_singleton.mp hb
    exact ⟨_, st, fun v z => nomatch z⟩
  keep := fun i h h' st k => k it (by simp) _ st
  item := by
    rintro X rfl rfl rfl hc i pins s σ H E I hf st hg
    obtain ⟨f0, f1, f2, f3, f4, f5⟩ := hf it (by simp)
    refine (Walks.longrange (prog := X.prog) (w := X.w) (I.ok.hd hc) it lo 1 n).item i s _ _ hg st fun v h' tk ⟨t, hv⟩ st' kk => ?_
    subst hv
    have I1 : L2.Inv X pins σ H { s with heap := h', toks := tk } := I.turned (fun b o hb e => kk b o (by simpa using hb) e) f0 f1 f3 f4 f5
    refine ⟨_, rfl, go_of (s := { s with heap := h', toks := tk }) (n := "longrange_iterator") st' rfl rfl (by decide) ⟨.int (lo + i), H, I1, ⟨t, by rw [Int.mul_one]⟩, ⟨rfl, rfl⟩, st', fun b hb => (hf b hb).1⟩⟩
  done := by
    rintro X rfl rfl rfl hc i pins s σ H E I hf st hg
    obtain ⟨f0, f1, f2, f3, f4, f5⟩ := hf it (by simp)
    exact wpAny_pyNext_long_end (I.ok.hd hc) st (by have : n ≤ i := hg; omega) fun h' eb => ⟨rfl, I.turned (t' := s.toks) (fun b o hb e => eb b o hb e) f0 f1 f3 f4 f5⟩
  self := fun _ _ _ _ _ st h => wpAny_pyIter_longiter st h
theorem rg_size (lo hi : Int) : Builtin.Range.rangeSize lo hi 1 = ((hi - lo).toNat : Int) := by rw [rangeSize_one]; split <;> omega
theorem range_any {X : Cx} {tg : Expr} {pins : List (Addr × Obj)} {σ : L2.St} {H : Hp} {s : Shared} {R : It → Hp → Prop} {E : Value → Shared → Prop} {lo hi : Int} {t u v : Tok} {tk : Nat} (I : L2.Inv X pins σ H s)
    (q : R (Itr lo (hi - lo).toNat) H) : wpAny (model X.prog X.w) X.A (pyIter (.ref s.heap.objs.size)) (PIE X pins σ tg R) E { s with heap := s.heap.push { cls := .type "range", data := .fields #[.int lo t, .int hi u, .int 1 v] }, toks := tk } := by
  have I1 : L2.Inv X pins σ H { s with heap := s.heap.push { cls := .type "range", data := .fields #[.int lo t, .int hi u, .int 1 v] }, toks := tk } := I.kept fun b o e => Heap.get?_push_of_some _ e
  have e1 : lo + ((0 : Nat) : Int) * 1 = lo := by simp
  have e2 : (((hi - lo).toNat : Nat) : Int) - ((0 : Nat) : Int) = Builtin.Range.rangeSize lo hi 1 := by rw [rg_size]; simp
  cases hs : Builtin.Range.small lo hi 1 with
  | true =>
    refine wpAny_pyIter_range (IsRange.new ..) hs (pi_one (tk := tk) I1 _ (turn_range _ lo (hi - lo).toNat) ?_ q)
    dsimp only
    rw [e1, e2]
    exact Heap.get?_push_size _ rfl
  | false =>
    refine wpAny_pyIter_longrange (IsRange.new ..) hs (pi_one (tk := tk) I1 _ (turn_long _ lo (hi - lo).toNat) ?_ q)
    dsimp only
    rw [e1, e2]
    exact Heap.get?_push_size _ rfl
/-- lo, lo + 1, .. -/
def rgD (lo : Int) (n : Nat) : List D := (List.range n).map fun i => D.int (lo + (i : Nat))
theorem rgD_length (lo : Int) (n : Nat) : (rgD lo n).length = n := by simp [rgD]
theorem rgD_get {lo : Int} {n i : Nat} (h : i < n) : (rgD lo n)[i]? = some (.int (lo + (i : Nat))) := by simp [rgD, h]
theorem walk_rg {K : PySem.W.Frag} {Z : Hp} (lo : Int) (n : Nat) : Walk K Z (Itr lo n) (rgD lo n) where
  stop := fun H _ => by show n ≤ _; rw [rgD_length]; exact Nat.le_refl _
  go := fun i H _ hi => by rw [rgD_length] at hi; exact hi
  yld := fun i H v H' d _ h hd => by
    obtain ⟨rfl, rfl⟩ := h
    by_cases hi : i < n
    · rw [rgD_get hi] at hd
      cases hd
      exact .inl ⟨rfl, .int _⟩
    · rw [List.getElem?_eq_none (by rw [rgD_length]; omega)] at hd; cases hd
def dRg1 (a : DTE) : DTA := fun ρ M Q R => a ρ M (fun x M1 => ∃ n, x = .int n ∧ Q (rgD 0 n.toNat) M1) R
def dRg2 (a b : DTE) : DTA := fun ρ M Q R => a ρ M (fun x M1 => b ρ M1 (fun y M2 => ∃ i j, x = .int i ∧ y = .int j ∧ Q (rgD i (j - i).toNat) M2) R) R
def iRgU (ta : TA) : TI := fun σ H R => ta σ H fun vs H1 => (∃ j : Int, vs = [.int j] ∧ R (Itr 0 j.toNat) H1) ∨ ∃ i j : Int, vs = [.int i, .int j] ∧ R (Itr i (j - i).toNat) H1
theorem pi_rgU {X : Cx} {tg e : Expr} {es : List Expr} {ta : TA} {p pos : Pos} (hg : Gl X "range") (hm : X.mg "range" = none) (ha : PA X (e :: es) ta)
    (hs : starEach (e :: es) X.env = (false, eval e X.env) :: starEach es X.env := by rfl) (hpl : (backTo pos (starEach es X.env)).any (·.1) = false := by rfl) : PI X tg (.Call (.Name "range" p) (e :: es) [] pos) (iRgU ta) := by
  refine ⟨fun pins s σ H R I h => ?_⟩
  refine Call_ (ld_blt I hg hm boot_range (PyProof.Rows.callWith_type1 (thn (ha.run pos pins s σ H _ I h) fun us s1 ⟨vs, H1, I1, r1, q1⟩ => ?_) hs hpl))
  rcases q1 with ⟨j, rfl, q⟩ | ⟨i, j, rfl, q⟩
  · obtain ⟨u, rfl, t, rfl⟩ := Vals.one r1
    exact call_range_1 (range_any I1 (by simpa using q))
  · obtain ⟨u, u', rfl, ⟨t, rfl⟩, ⟨t', rfl⟩⟩ := Vals.two r1
    exact call_range_2 (range_any I1 q)
section
variable {X : Cx} {W : WX} {tg a b e : Expr} {es : List Expr} {p pos : Pos} {Ta Tb : DTE}
theorem di_rg1 (hm : X.mg "range" = none) (ha : DE X W a Ta) (hg : Gl X "range" := by rfl) (hs : starEach [a] X.env = (false, eval a X.env) :: starEach [] X.env := by rfl) : DI X W tg (.Call (.Name "range" p) [a] [] pos) (dRg1 Ta) :=
  wkI (pi_rgU hg hm (pa_cons ha pa_nil hs) hs rfl) fun σ H R ⟨Z, ρ, M, Qd, Rd, G, h⟩ => G.seq (rel1 := Rep X.K) h fun Z1 H1 M1 v x G1 _ rx h1 => by
    obtain ⟨n, rfl, q⟩ := h1
    cases rx
    exact .inl ⟨n, rfl, G1.val (rel := fun Z J ds => Walk X.K Z J ds) (walk_rg _ _) q⟩
theorem di_rg2 (hm : X.mg "range" = none) (ha : DE X W a Ta) (hb : DE X W b Tb) (hg : Gl X "range" := by rfl) (hs : starEach [a, b] X.env = (false, eval a X.env) :: starEach [b] X.env := by rfl) (hs2 : starEach [b] X.env = (false, eval b X.env) :: starEach [] X.env := by rfl)
    (hpl : (backTo pos (starEach [b] X.env)).any (·.1) = false := by rfl) : DI X W tg (.Call (.Name "range" p) [a, b] [] pos) (dRg2 Ta Tb) :=
  wkI (pi_rgU hg hm (pa_cons ha (pa_cons hb pa_nil hs2) hs) hs hpl) fun σ H R ⟨Z, ρ, M, Qd, Rd, G, h⟩ => G.seq (rel1 := Rep X.K) h fun Z1 H1 M1 v x G1 _ rx h1 => G1.seq (rel1 := Rep X.K) h1 fun Z2 H2 M2 w y G2 _ ry h2 => by
    obtain ⟨i, j, rfl, rfl, q⟩ := h2
    cases rx; cases ry
    exact .inr ⟨i, j, rfl, G2.val (rel := fun Z J ds => Walk X.K Z J ds) (walk_rg _ _) q⟩
/-! ### a list, a tuple, a text -/
def dLsI (a : DTE) : DTA := fun ρ M Q R => a ρ M (fun x M1 => ∃ ds, x = .lst ds ∧ Q ds M1) R
def dTpI (a : DTE) : DTA := fun ρ M Q R => a ρ M (fun x M1 => ∃ ds, x = .tup ds ∧ Q ds M1) R
def chD (z : Str) : List D := z.cps.toList.map fun c => D.str ⟨#[c]⟩
def dStI (a : DTE) : DTA := fun ρ M Q R => a ρ M (fun x M1 => ∃ z, x = .str z ∧ Q (chD z) M1) R
theorem walk_l {K : PySem.W.Frag} {Z : Hp} {q : Addr} {xs : List V} {ds : List D} (hz : Z q = some (.lst xs)) (rl : RepL K Z xs ds) : Walk K Z (Itl K q) ds where
  stop := fun H e => ⟨xs, SqL.of (e _ _ hz), by rw [rl.length]; exact Nat.le_refl _⟩
  go := fun i H e hi => ⟨xs, xs[i]'(by rw [rl.length]; exact hi), SqL.of (e _ _ hz), List.getElem?_eq_getElem _⟩
  yld := fun i H v H' d e h hd => by
    obtain ⟨rfl, h⟩ := h
    obtain ⟨u, e1, r⟩ := rl.get hd
    rw [h xs (SqL.of (e _ _ hz))] at e1
    cases e1
    exact .inl ⟨rfl, r⟩
theorem walk_t {K : PySem.W.Frag} {Z : Hp} {q : Addr} {xs : List V} {ds : List D} (hz : Z q = some (.tup xs)) (rl : RepL K Z xs ds) : Walk K Z (Itt K q) ds where
  stop := fun H e => ⟨xs, SqT.of (e _ _ hz), by rw [rl.length]; exact Nat.le_refl _⟩
  go := fun i H e hi => ⟨xs, xs[i]'(by rw [rl.length]; exact hi), SqT.of (e _ _ hz), List.getElem?_eq_getElem _⟩
  yld := fun i H v H' d e h hd => by
    obtain ⟨rfl, h⟩ := h
    obtain ⟨u, e1, r⟩ := rl.get hd
    rw [h xs (SqT.of (e _ _ hz))] at e1
    cases e1
    exact .inl ⟨rfl, r⟩
theorem di_lst (ha : DE X W a Ta) : DI X W tg a (dLsI Ta) := wkI (pi_list ha) fun σ H R ⟨Z, ρ, M, Qd, Rd, G, h⟩ => G.seq (rel1 := Rep X.K) h fun Z1 H1 M1 v x G1 _ rx h1 => by
  obtain ⟨ds, rfl, q⟩ := h1
  cases rx with
  | lst hz rl => exact ⟨_, rfl, ⟨_, SqL.of (G1.at_.zh _ _ hz)⟩, G1.val (rel := fun Z J ds => Walk X.K Z J ds) (walk_l hz rl) q⟩
theorem di_tup (ha : DE X W a Ta) : DI X W tg a (dTpI Ta) := wkI (pi_tup ha) fun σ H R ⟨Z, ρ, M, Qd, Rd, G, h⟩ => G.seq (rel1 := Rep X.K) h fun Z1 H1 M1 v x G1 _ rx h1 => by
  obtain ⟨ds, rfl, q⟩ := h1
  cases rx with
  | tup hz rl => exact ⟨_, rfl, ⟨_, SqT.of (G1.at_.zh _ _ hz)⟩, G1.val (rel := fun Z J ds => Walk X.K Z J ds) (walk_t hz rl) q⟩
theorem di_str (ha : DE X W a Ta) : DI X W tg a (dStI Ta) := wkI (pi_str ha) fun σ H R ⟨Z, ρ, M, Qd, Rd, G, h⟩ => G.seq (rel1 := Rep X.K) h fun Z1 H1 M1 v x G1 _ rx h1 => by
  obtain ⟨z, rfl, q⟩ := h1
  cases rx
  have hlen : (chD z).length = z.cps.size := by simp [chD]
  refine ⟨z, rfl, G1.val (rel := fun Z J ds => Walk X.K Z J ds) ⟨fun H _ => ?_, fun i H _ hi => ?_, fun i H v H' d _ h hd => ?_⟩ q⟩
  · show z.cps.size ≤ _; rw [hlen]; exact Nat.le_refl _
  · show i < z.cps.size; rw [← hlen]; exact hi
  · obtain ⟨rfl, c, hc, rfl⟩ := h
    refine .inl ⟨rfl, ?_⟩
    have : (chD z)[i]? = some (.str ⟨#[c]⟩) := by simp [chD, hc]
    rw [this] at hd
    cases hd
    exact .str _
end
end Dl
namespace Dl
open PySem PySem.Spec PyProof.Rows L2
/-! # zip of lists, tuples, texts in any mix; enumerate -/
/-- what one side of a zip walks -/
inductive Wd where
  | lst (a : Addr) | tup (a : Addr) | txt (x : Str) (k : Tok)
def Wd.it (k : Wd) (it : Addr) (i : Nat) (h : Heap) : Prop := match k with
  | .lst a => h.IsListIter it a i
  | .tup a => h.IsTupleIter it a i
  | .txt x t => h.IsStrIter it (strIterType x) x t i
def Wd.has (k : Wd) (H : Hp) (xs : List V) : Prop := match k with
  | .lst a => H a = some (.lst xs)
  | .tup a => H a = some (.tup xs)
  | .txt x _ => xs = x.cps.toList.map fun c => V.str ⟨#[c]⟩
def Wd.val (k : Wd) : V := match k with
  | .lst a => .ref a
  | .tup a => .ref a
  | .txt x _ => .str x
theorem Wd.obj {k : Wd} {it : Addr} {i : Nat} {h : Heap} (w : k.it it i h) : ∃ o, h.get? it = some o ∧ ∀ v, o.data ≠ .cell v := by
  cases k <;> (obtain ⟨o, e, c, d⟩ := w; exact ⟨o, e, fun v z => by rw [d] at z; cases z⟩)
theorem Wd.keep {k : Wd} {it : Addr} {i : Nat} {h h' : Heap} (w : k.it it i h) (kk : ∀ o, h.get? it = some o → h'.get? it = some o) : k.it it i h' := by
  cases k <;> (obtain ⟨o, e, r⟩ := w; exact ⟨o, kk o e, r⟩)
/-- the walker at a turn, as the library draws from it -/
theorem Wd.draws {X : Cx} {pins : List (Addr × Obj)} {σ : L2.St} {H : Hp} {s : Shared} (hc : X.calm = true) (I : L2.Inv X pins σ H s) {k : Wd} {it : Addr} {i : Nat} {xs : List V} (hn : H it = none) (w : k.it it i s.heap) (hx : k.has H xs) :
    ∃ (fp : List Addr) (P : Nat → Value → Prop) (St : Nat → Heap → Prop), Draws X.prog X.w X.A.in1 it fp xs.length P St ∧ it ∈ fp ∧ (∀ b ∈ fp, b = it ∨ ∃ o, H b = some o) ∧ St i s.heap ∧ (∀ j v, P j v → ∃ x, xs[j]? = some x ∧ RelV x v) ∧ ∀ j h, St j h → k.it it j h := by
  have hh : X.A.in1.handled = none := I.ok.hd hc
  cases k with
  | lst a =>
    obtain ⟨its, rv, pl, hz⟩ := I.list (SqL.of hx)
    have hne : a ≠ it := ne_of_none hx hn
    refine ⟨[it, a], fun i v => its.toArray[i]? = some v, fun i h => h.IsListIter it a i ∧ h.IsList a its.toArray, by have := Draws.list (prog := X.prog) (w := X.w) hh it a hne its.toArray; rw [List.size_toArray, ← rv.length] at this; exact this, by simp, fun b hb => ?_, ⟨w, pl.isList⟩, fun j v e => ?_, fun j h st => st.1⟩
    · rcases List.mem_cons.mp hb with e | e
      · exact .inl e
      · cases List.mem_singleton.mp e; exact .inr ⟨_, hx⟩
    · have e' : its[j]? = some v := by simpa using e
      by_cases hj : j < xs.length
      · obtain ⟨u, hu, ru⟩ := rv.get (List.getElem?_eq_getElem hj)
        rw [e'] at hu; cases hu
        exact ⟨_, List.getElem?_eq_getElem hj, ru⟩
      · rw [List.getElem?_eq_none (by rw [← rv.length]; omega)] at e'; cases e'
  | tup a =>
    obtain ⟨its, rv, pl, hz⟩ := I.tuple (SqT.of hx)
    have hne : a ≠ it := ne_of_none hx hn
    refine ⟨[it, a], fun i v => its.toArray[i]? = some v, fun i h => h.IsTupleIter it a i ∧ h.IsTuple a its.toArray, by have := Draws.tuple (prog := X.prog) (w := X.w) hh it a hne its.toArray; rw [List.size_toArray, ← rv.length] at this; exact this, by simp, fun b hb => ?_, ⟨w, pl⟩, fun j v e => ?_, fun j h st => st.1⟩
    · rcases List.mem_cons.mp hb with e | e
      · exact .inl e
      · cases List.mem_singleton.mp e; exact .inr ⟨_, hx⟩
    · have e' : its[j]? = some v := by simpa using e
      by_cases hj : j < xs.length
      · obtain ⟨u, hu, ru⟩ := rv.get (List.getElem?_eq_getElem hj)
        rw [e'] at hu; cases hu
        exact ⟨_, List.getElem?_eq_getElem hj, ru⟩
      · rw [List.getElem?_eq_none (by rw [← rv.length]; omega)] at e'; cases e'
  | txt x t =>
    have hx' : xs = x.cps.toList.map fun c => V.str ⟨#[c]⟩ := hx
    subst hx'
    refine ⟨[it], fun i v => ∃ c u, x.cps[i]? = some c ∧ v = .str ⟨#[c]⟩ u, fun i h => h.IsStrIter it (strIterType x) x t i, by have := Draws.text (prog := X.prog) (w := X.w) hh it x t; rw [show x.cps.size = (x.cps.toList.map fun c => V.str ⟨#[c]⟩).length by simp] at this; exact this, by simp, fun b hb => .inl (List.mem_singleton.mp hb), w, fun j v ⟨c, u, e, ev⟩ => ?_, fun j h st => st⟩
    subst ev
    exact ⟨.str ⟨#[c]⟩, by simp [e], u, rfl⟩
theorem Wd.same {k : Wd} {H : Hp} {xs ys : List V} (a : k.has H xs) (b : k.has H ys) : xs = ys := by
  cases k with
  | lst q => have e := (show H q = _ from a).symm.trans (show H q = _ from b); cases e; rfl
  | tup q => have e := (show H q = _ from a).symm.trans (show H q = _ from b); cases e; rfl
  | txt x t => exact (show xs = _ from a).trans (show ys = _ from b).symm
def Itw (k1 k2 : Wd) : It :=
  ⟨fun i H => ∃ xs ys, k1.has H xs ∧ k2.has H ys ∧ i < min xs.length ys.length,
    fun i H v H' => ∃ T x y, v = .ref T ∧ H T = none ∧ H' = upd H T (.tup [x, y]) ∧ (∀ xs, k1.has H xs → xs[i]? = some x) ∧ ∀ ys, k2.has H ys → ys[i]? = some y,
    fun i H => ∃ xs ys, k1.has H xs ∧ k2.has H ys ∧ i = min xs.length ys.length⟩
theorem turn_zipW {P : Program} {w : World} {K : PySem.W.Frag} {elts : List Expr} {kk : Nat} {tpos : Pos} (k1 k2 : Wd) {z TI TO i1 i2 : Addr} (D : [z, TI, TO, i1, i2].Nodup) :
    Turn P w K (.Tuple elts kk tpos) (Itw k1 k2) [z, TI, TO, i1, i2] z (fun i h => IsZip h z TI TO .none ∧ IsTupOf2 h TI (.ref i1) (.ref i2) ∧ (∃ x y, IsTupOf2 h TO x y) ∧ k1.it i1 i h ∧ k2.it i2 i h) := by
  have hsep : ∀ {X : Cx} {pins : List (Addr × Obj)} {H : Hp} {fp1 fp2 : List Addr}, (∀ b ∈ [z, TI, TO, i1, i2], FpOk X pins H b) → i1 ∈ fp1 → i2 ∈ fp2 → (∀ b ∈ fp1, b = i1 ∨ ∃ o, H b = some o) → (∀ b ∈ fp2, b = i2 ∨ ∃ o, H b = some o) → ZipSep2 z TI TO i1 i2 fp1 fp2 := by
    intro X pins H fp1 fp2 hf m1 m2 h1 h2
    simp only [List.nodup_cons, List.mem_cons, List.not_mem_nil, or_false, not_or, List.nodup_nil, and_true] at D
    obtain ⟨⟨d1, d2, d3, d4⟩, ⟨d5, d6, d7⟩, ⟨d8, d9⟩, d10⟩ := D
    have nn : ∀ b, (b = z ∨ b = TI ∨ b = TO ∨ b = i1 ∨ b = i2) → H b = none := fun b hb => (hf b (by simpa using hb)).1
    have out : ∀ {b i : Addr} {fp : List Addr}, (∀ b ∈ fp, b = i ∨ ∃ o, H b = some o) → H b = none → b ≠ i → b ∉ fp := fun h hb hne hm => by
      rcases h _ hm with e | ⟨o, e⟩
      · exact hne e
      · rw [hb] at e; cases e
    exact ⟨Ne.symm d1, Ne.symm d2, d5, d6, m1, out h1 (nn z (by simp)) d3, out h1 (nn TO (by simp)) d8, d7, m2, out h2 (nn z (by simp)) d4, out h2 (nn TO (by simp)) d9, out h2 (nn i1 (by simp)) d10.1, out h1 (nn i2 (by simp)) (Ne.symm d10.1)⟩
  exact {
    mem := by simp
    obj := fun i h st c hc => by
      obtain ⟨hz, hTI, ⟨x, y, hTO⟩, h1, h2⟩ := st
      have e' : c = z ∨ c = TI ∨ c = TO ∨ c = i1 ∨ c = i2 := by simpa using hc
      rcases e' with q | q | q | q | q
      · rw [q]; exact ⟨_, hz, fun v q => nomatch q⟩
      · rw [q]; exact ⟨_, hTI, fun v q => nomatch q⟩
      · rw [q]; exact ⟨_, hTO, fun v q => nomatch q⟩
      · rw [q]; exact Wd.obj h1
      · rw [q]; exact Wd.obj h2
    keep := fun i h h' st k => by
      obtain ⟨hz, hTI, ⟨x, y, hTO⟩, h1, h2⟩ := st
      exact ⟨k z (by simp) _ hz, k TI (by simp) _ hTI, ⟨x, y, k TO (by simp) _ hTO⟩, Wd.keep h1 fun o q => k i1 (by simp) o q, Wd.keep h2 fun o q => k i2 (by simp) o q⟩
    item := by
      rintro X rfl rfl rfl hc i pins s σ H E I hf st ⟨xs, ys, hx, hy, hlt⟩
      obtain ⟨hz, hTI, hTO, h1, h2⟩ := st
      obtain ⟨fp1, P1, S1, D1, m1, c1, st1, p1, b1⟩ := Wd.draws hc I (hf i1 (by simp)).1 h1 hx
      obtain ⟨fp2, P2, S2, D2, m2, c2, st2, p2, b2⟩ := Wd.draws hc I (hf i2 (by simp)).1 h2 hy
      have S := hsep hf m1 m2 c1 c2
      refine (GoesN.zip2 (elts := elts) (x1 := kk) (pos := tpos) S D1 D2).goes i s _ E hlt ⟨hz, hTI, hTO, st1, st2⟩ fun v h' tk hY hS hk _ => ?_
      obtain ⟨T, x, y, rfl, hT, hPx, hPy, hTup⟩ := hY
      obtain ⟨x', ex, rx⟩ := p1 _ _ hPx
      obtain ⟨y', ey, ry⟩ := p2 _ _ hPy
      have hTn : H T = none := I.hok.fresh hT
      have I1 : L2.Inv X pins σ (upd H T (.tup [x', y'])) { s with heap := h', toks := tk } :=
        I.turnedNew (t' := tk) (ch := [z, TI, TO, i1, i2]) (fun c o hb q => hk c o (fun q' => hb (by simp at q' ⊢; rcases q' with q' | q' | q' | q' <;> simp [q'])) q) hf hT ⟨by show 2 ≤ sizeLine; decide, [x, y], .cons rx (.cons ry .nil), hTup⟩
      obtain ⟨g1, g2, g3, g4, g5⟩ := hS
      refine ⟨.ref T, _, I1, rfl, ⟨T, x', y', rfl, hTn, rfl, fun l hl => by rw [Wd.same hl hx]; exact ex, fun l hl => by rw [Wd.same hl hy]; exact ey⟩, ⟨g1, g2, g3, b1 _ _ g4, b2 _ _ g5⟩, fun c hcm => ?_⟩
      have hlt' : c < s.heap.objs.size := by
        have e' : c = z ∨ c = TI ∨ c = TO ∨ c = i1 ∨ c = i2 := by simpa using hcm
        rcases e' with q | q | q | q | q
        · rw [q]; exact Heap.lt_size hz
        · rw [q]; exact Heap.lt_size hTI
        · rw [q]; obtain ⟨_, _, e⟩ := hTO; exact Heap.lt_size e
        · rw [q]; obtain ⟨_, e, _⟩ := Wd.obj h1; exact Heap.lt_size e
        · rw [q]; obtain ⟨_, e, _⟩ := Wd.obj h2; exact Heap.lt_size e
      rw [upd_ne (Nat.ne_of_lt (Nat.lt_of_lt_of_le hlt' hT))]
      exact (hf c hcm).1
    done := by
      rintro X rfl rfl rfl hc i pins s σ H E I hf st ⟨xs, ys, hx, hy, hlt⟩
      obtain ⟨hz, hTI, hTO, h1, h2⟩ := st
      obtain ⟨fp1, P1, S1, D1, m1, c1, st1, p1, b1⟩ := Wd.draws hc I (hf i1 (by simp)).1 h1 hx
      obtain ⟨fp2, P2, S2, D2, m2, c2, st2, p2, b2⟩ := Wd.draws hc I (hf i2 (by simp)).1 h2 hy
      have S := hsep hf m1 m2 c1 c2
      refine wpAny_mono ((GoesN.zip2 (elts := elts) (x1 := kk) (pos := tpos) S D1 D2).stops s (fun s1 => L2.Inv X pins σ H s1) E (by rw [← hlt]; exact ⟨hz, hTI, hTO, st1, st2⟩) fun h' tk hk _ => ?_) (fun r s1 q => q) fun _ _ e => e
      exact I.turnedL (t' := tk) (ch := [z, TI, TO, i1, i2]) (fun c o hb q => hk c o (fun q' => hb (by simp at q' ⊢; rcases q' with q' | q' | q' | q' <;> simp [q'])) q) hf
    self := fun A i s Q E st h => wpAny_pyIter_zip st.1 h }
/-- a side's value -/
def WdOf (v : V) (H : Hp) (xs : List V) (k : Tok → Wd) : Prop := (∃ a, v = .ref a ∧ ((H a = some (.lst xs) ∧ k = fun _ => .lst a) ∨ (H a = some (.tup xs) ∧ k = fun _ => .tup a))) ∨ ∃ x, v = .str x ∧ (xs = x.cps.toList.map fun c => V.str ⟨#[c]⟩) ∧ k = fun t => .txt x t
theorem WdOf.begins {X : Cx} {pins : List (Addr × Obj)} {σ : L2.St} {H : Hp} {s : Shared} (I : L2.Inv X pins σ H s) {v : V} {u : Value} {xs : List V} {k : Tok → Wd} (w : WdOf v H xs k) (r : RelV v u) :
    ∃ (t : Tok) (o : Obj) (Hh : Heap → Prop), Begins u o Hh ∧ Hh s.heap ∧ (k t).has H xs ∧ ∀ (it : Addr) (h : Heap), h.get? it = some o → (k t).it it 0 h := by
  rcases w with ⟨a, rfl, ⟨h, rfl⟩ | ⟨h, rfl⟩⟩ | ⟨x, rfl, rfl, rfl⟩
  · cases (show u = Value.ref a from r)
    obtain ⟨its, rv, pl, hz⟩ := I.list (SqL.of h)
    exact ⟨0, _, _, begins_list a its.toArray, pl.isList, h, fun it hp e => ⟨_, e, rfl, rfl⟩⟩
  · cases (show u = Value.ref a from r)
    obtain ⟨its, rv, pl, hz⟩ := I.tuple (SqT.of h)
    exact ⟨0, _, _, begins_tuple a its.toArray, pl, h, fun it hp e => ⟨_, e, rfl, rfl⟩⟩
  · obtain ⟨t, rfl⟩ := (show ∃ t, u = Value.str x t from r)
    exact ⟨t, _, _, begins_text x t, trivial, rfl, fun it hp e => ⟨_, e, rfl, rfl⟩⟩
def iZipW (ta : TA) : TI := fun σ H R => ta σ H fun vs H1 => ∃ v w xs ys k1 k2, vs = [v, w] ∧ WdOf v H1 xs k1 ∧ WdOf w H1 ys k2 ∧ ∀ t1 t2, (k1 t1).has H1 xs → (k2 t2).has H1 ys → R (Itw (k1 t1) (k2 t2)) H1
theorem pi_zipW {X : Cx} {e e2 : Expr} {ta : TA} {p pos tpos : Pos} {elts : List Expr} {kk : Nat} (hg : Gl X "zip") (hm : X.mg "zip" = none) (ha : PA X [e, e2] ta)
    (hs : starEach [e, e2] X.env = (false, eval e X.env) :: starEach [e2] X.env := by rfl) (hpl : (backTo pos (starEach [e2] X.env)).any (·.1) = false := by rfl) :
    PI X (.Tuple elts kk tpos) (.Call (.Name "zip" p) [e, e2] [] pos) (iZipW ta) := by
  refine ⟨fun pins s σ H R I h => ?_⟩
  refine Call_ (ld_blt I hg hm PyProof.Rows.boot_zip (PyProof.Rows.callWith_type1 (thn (ha.run pos pins s σ H _ I h) fun us s1 ⟨vs, H1, I1, r1, q1⟩ => ?_) hs hpl))
  obtain ⟨v, w, xs, ys, k1, k2, rfl, w1, w2, q⟩ := q1
  obtain ⟨u1, u2, rfl, r1, r2⟩ := Vals.two r1
  obtain ⟨t1, o1, H1', B1, g1, hx, n1⟩ := w1.begins I1 r1
  obtain ⟨t2, o2, H2', B2, g2, hy, n2⟩ := w2.begins I1 r2
  refine zip_begins2 B1 B2 g1 g2 fun h' hz hTI hTO h1 h2 hsz hk => wpAny_pyIter_zip hz ?_
  have I2 : L2.Inv X pins σ H1 { s1 with heap := h' } := I1.kept (t' := s1.toks) hk
  refine ⟨s1.heap.objs.size + 4, [s1.heap.objs.size + 4, s1.heap.objs.size + 2, s1.heap.objs.size + 3, s1.heap.objs.size, s1.heap.objs.size + 1], _, _, H1, rfl, I2, turn_zipW (k1 t1) (k2 t2) (by simp), ⟨hz, hTI, ⟨_, _, hTO⟩, n1 _ _ h1, n2 _ _ h2⟩, fun c hcm => ?_, q t1 t2 hx hy⟩
  have hle : s1.heap.objs.size ≤ c := by
    simp only [List.mem_cons, List.not_mem_nil, or_false] at hcm
    rcases hcm with z | z | z | z | z <;> (rw [z]; first | exact Nat.le_add_right _ _ | exact Nat.le_refl _)
  exact I1.fpOk hle (I1.hok.fresh hle)
/-- the pairs -/
def zipD : List D → List D → List D
  | x :: xs, y :: ys => .tup [x, y] :: zipD xs ys
  | _, _ => []
theorem zipD_length : ∀ (xs ys : List D), (zipD xs ys).length = min xs.length ys.length
  | [], _ => by simp [zipD]
  | _ :: _, [] => by simp [zipD]
  | x :: xs, y :: ys => by simp [zipD, zipD_length xs ys]
theorem zipD_get : ∀ {xs ys : List D} {i : Nat} {d : D}, (zipD xs ys)[i]? = some d → ∃ x y, xs[i]? = some x ∧ ys[i]? = some y ∧ d = .tup [x, y]
  | [], _, i, d, h => by simp [zipD] at h
  | _ :: _, [], i, d, h => by simp [zipD] at h
  | x :: xs, y :: ys, 0, d, h => by simp [zipD] at h; exact ⟨x, y, rfl, rfl, h.symm⟩
  | x :: xs, y :: ys, i + 1, d, h => by
    obtain ⟨a, b, h1, h2, h3⟩ := zipD_get (i := i) (by simpa [zipD] using h)
    exact ⟨a, b, by simpa using h1, by simpa using h2, h3⟩
/-- what an iterable value gives -/
def D.items : D → Option (List D)
  | .lst ds => some ds
  | .tup ds => some ds
  | .str z => some (chD z)
  | _ => none
def dZip (a b : DTE) : DTA := fun ρ M Q R => a ρ M (fun x M1 => b ρ M1 (fun y M2 => ∃ xs ys, x.items = some xs ∧ y.items = some ys ∧ Q (zipD xs ys) M2) R) R
theorem repL_ch {K : PySem.W.Frag} {Z : Hp} : ∀ cs : List Nat, RepL K Z (cs.map fun c => V.str ⟨#[c]⟩) (cs.map fun c => D.str ⟨#[c]⟩)
  | [] => .nil
  | c :: cs => .cons (.str _) (repL_ch cs)
theorem items_rep {K : PySem.W.Frag} {Z : Hp} {v : V} {x : D} {xs : List D} (r : Rep K Z v x) (h : x.items = some xs) : ∃ ys k, WdOf v Z ys k ∧ RepL K Z ys xs := by
  cases r <;> cases h
  · exact ⟨_, _, .inr ⟨_, rfl, rfl, rfl⟩, repL_ch _⟩
  · exact ⟨_, _, .inl ⟨_, rfl, .inr ⟨‹_›, rfl⟩⟩, ‹_›⟩
  · exact ⟨_, _, .inl ⟨_, rfl, .inl ⟨‹_›, rfl⟩⟩, ‹_›⟩
theorem WdOf.mono {v : V} {H H' : Hp} {xs : List V} {k : Tok → Wd} (e : Ex H H') (w : WdOf v H xs k) : WdOf v H' xs k := by
  rcases w with ⟨a, rfl, ⟨h, rfl⟩ | ⟨h, rfl⟩⟩ | ⟨x, rfl, rfl, rfl⟩
  · exact .inl ⟨a, rfl, .inl ⟨e _ _ h, rfl⟩⟩
  · exact .inl ⟨a, rfl, .inr ⟨e _ _ h, rfl⟩⟩
  · exact .inr ⟨x, rfl, rfl, rfl⟩
theorem WdOf.hasI {v : V} {H : Hp} {xs : List V} {k : Tok → Wd} (w : WdOf v H xs k) (t : Tok) : (k t).has H xs := by
  rcases w with ⟨a, rfl, ⟨h, rfl⟩ | ⟨h, rfl⟩⟩ | ⟨x, rfl, rfl, rfl⟩
  · exact h
  · exact h
  · rfl
theorem walk_zip {K : PySem.W.Frag} {Z : Hp} {v w : V} {xs ys : List V} {ds es : List D} {k1 k2 : Tok → Wd} (w1 : WdOf v Z xs k1) (w2 : WdOf w Z ys k2) (r1 : RepL K Z xs ds) (r2 : RepL K Z ys es) (t1 t2 : Tok) : Walk K Z (Itw (k1 t1) (k2 t2)) (zipD ds es) where
  stop := fun H e => ⟨xs, ys, (w1.mono e).hasI t1, (w2.mono e).hasI t2, by rw [zipD_length, r1.length, r2.length]⟩
  go := fun i H e hi => ⟨xs, ys, (w1.mono e).hasI t1, (w2.mono e).hasI t2, by rw [zipD_length] at hi; rw [r1.length, r2.length]; exact hi⟩
  yld := fun i H u H' d e h hd => by
    obtain ⟨T, x, y, rfl, hT, rfl, hx, hy⟩ := h
    obtain ⟨a, b, e1, e2, rfl⟩ := zipD_get hd
    obtain ⟨x', ex, rx⟩ := r1.get e1
    obtain ⟨y', ey, ry⟩ := r2.get e2
    rw [hx xs ((w1.mono e).hasI t1)] at ex
    rw [hy ys ((w2.mono e).hasI t2)] at ey
    cases ex; cases ey
    have hZ : Z T = none := e.free hT
    exact .inr ⟨T, _, hT, rfl, .tup upd_same (.cons (rx.mono (Ex.new hZ)) (.cons (ry.mono (Ex.new hZ)) .nil))⟩
section
variable {X : Cx} {W : WX} {tg a b e : Expr} {es elts : List Expr} {p pos tpos : Pos} {Ta Tb : DTE} {kk : Nat}
theorem di_zip (hm : X.mg "zip" = none) (ha : DE X W a Ta) (hb : DE X W b Tb) (hg : Gl X "zip" := by rfl) (hs : starEach [a, b] X.env = (false, eval a X.env) :: starEach [b] X.env := by rfl) (hs2 : starEach [b] X.env = (false, eval b X.env) :: starEach [] X.env := by rfl)
    (hpl : (backTo pos (starEach [b] X.env)).any (·.1) = false := by rfl) : DI X W (.Tuple elts kk tpos) (.Call (.Name "zip" p) [a, b] [] pos) (dZip Ta Tb) :=
  wkI (pi_zipW hg hm (pa_cons ha (pa_cons hb pa_nil hs2) hs) hs hpl) fun σ H R ⟨Z, ρ, M, Qd, Rd, G, h⟩ => G.seq (rel1 := Rep X.K) h fun Z1 H1 M1 v x G1 _ rx h1 => G1.seq (rel1 := Rep X.K) h1 fun Z2 H2 M2 w y G2 e2 ry h2 => by
    obtain ⟨xs, ys, h3, h4, q⟩ := h2
    obtain ⟨vs, k1, w1, r1⟩ := items_rep (rx.mono e2) h3
    obtain ⟨ws, k2, w2, r2⟩ := items_rep ry h4
    exact ⟨_, _, _, _, k1, k2, rfl, w1.mono G2.at_.zh, w2.mono G2.at_.zh, fun t1 t2 _ _ => G2.val (rel := fun Z J ds => Walk X.K Z J ds) (walk_zip w1 w2 r1 r2 t1 t2) q⟩
/-- enumerate of a list -/
def enD : Nat → List D → List D
  | _, [] => []
  | n, x :: xs => .tup [.int (n : Nat), x] :: enD (n + 1) xs
theorem enD_length : ∀ (n : Nat) (xs : List D), (enD n xs).length = xs.length
  | _, [] => rfl
  | n, x :: xs => congrArg Nat.succ (enD_length (n + 1) xs)
theorem enD_get : ∀ {n : Nat} {xs : List D} {i : Nat} {d : D}, (enD n xs)[i]? = some d → ∃ x, xs[i]? = some x ∧ d = .tup [.int ((n + i : Nat)), x]
  | n, [], i, d, h => by simp [enD] at h
  | n, x :: xs, 0, d, h => by simp [enD] at h; exact ⟨x, rfl, h.symm⟩
  | n, x :: xs, i + 1, d, h => by
    obtain ⟨a, h1, h2⟩ := enD_get (n := n + 1) (i := i) (by simpa [enD] using h)
    exact ⟨a, by simpa using h1, by rw [h2, show n + 1 + i = n + (i + 1) by omega]⟩
def dEnL (a : DTE) : DTA := fun ρ M Q R => a ρ M (fun x M1 => ∃ ds, x = .lst ds ∧ Q (enD 0 ds) M1) R
theorem di_enumL (hm : X.mg "enumerate" = none) (ha : DE X W a Ta) (hg : Gl X "enumerate" := by rfl) (hs : starEach [a] X.env = (false, eval a X.env) :: starEach [] X.env := by rfl) :
    DI X W (.Tuple elts kk tpos) (.Call (.Name "enumerate" p) [a] [] pos) (dEnL Ta) :=
  wkI (pi_enum hg hm (pa_cons ha pa_nil hs) hs) fun σ H R ⟨Z, ρ, M, Qd, Rd, G, h⟩ => G.seq (rel1 := Rep X.K) h fun Z1 H1 M1 v x G1 _ rx h1 => by
    obtain ⟨ds, rfl, q⟩ := h1
    cases rx with
    | lst hz rl =>
      rename_i a0 xs
      refine ⟨_, xs, rfl, SqL.of (G1.at_.zh _ _ hz), G1.val (rel := fun Z J ds => Walk X.K Z J ds) ⟨fun H e => ⟨xs, SqL.of (e _ _ hz), by rw [enD_length, rl.length]; exact Nat.le_refl _⟩, fun i H e hi => ?_, fun i H v H' d e h hd => ?_⟩ q⟩
      · rw [enD_length, ← rl.length] at hi
        exact ⟨xs, xs[i], SqL.of (e _ _ hz), List.getElem?_eq_getElem _⟩
      · obtain ⟨T, x, rfl, hT, rfl, hx⟩ := h
        obtain ⟨b, e1, rfl⟩ := enD_get hd
        obtain ⟨u, eu, ru⟩ := rl.get e1
        rw [hx xs (SqL.of (e _ _ hz))] at eu
        cases eu
        have hZ : Z1 T = none := e.free hT
        rw [Nat.zero_add]
        exact .inr ⟨T, _, hT, rfl, .tup upd_same (.cons (.int _) (.cons (ru.mono (Ex.new hZ)) .nil))⟩
end
end Dl
namespace Dl
open PySem PySem.Spec PyProof.Rows L2
/-! # list(x), x a range of any size or a zip; sorted(d), d a dict with tuples as keys -/
section
variable {prog : Program} {w : World} {A : Around} {E : Value → Shared → Prop} {s : Shared} {T : String} {r : Addr} {own dep : List Addr} {n : Nat} {P : Nat → Value → Prop}
/-- what list(x) asks of the thing at r (own: what turns with it; dep: what it leans on) -/
structure Feed (prog : Program) (w : World) (A : Around) (T : String) (r : Addr) (own dep : List Addr) (n : Nat) (P : Nat → Value → Prop) (Good : Heap → Prop) : Prop where
  kind : ∀ s : Shared, Good s.heap → s.TypeIs (.ref r) T
  mem : r ∈ own ++ dep
  low : ∀ h, Good h → ∀ b ∈ own ++ dep, b < h.objs.size
  stay : ∀ h h' : Heap, Good h → (∀ b ∈ own ++ dep, ∀ o, h.get? b = some o → h'.get? b = some o) → Good h'
  noL : (Value.type T == Value.type "list") = false
  noT : (Value.type T == Value.type "tuple") = false
  hint : ∀ (E : Value → Shared → Prop) (s : Shared) (Q : Bool → Shared → Prop), Good s.heap → (∀ b tk, Q b { s with toks := tk }) → wpAny (model prog w) A (Builtin.List.listLengthHint (.ref r)) Q E s
  start : ∀ s : Shared, Good s.heap → ∃ (I : Addr) (h1 : Heap) (fp wr : List Addr) (St : Nat → Heap → Prop), (∀ (E : Value → Shared → Prop) (Q : Value → Shared → Prop), Q (.ref I) { s with heap := h1 } → wpAny (model prog w) A (pyIter (.ref r)) Q E s) ∧
    (∀ b o, s.heap.get? b = some o → h1.get? b = some o) ∧ Walks prog w A I fp wr n P St ∧ St 0 h1 ∧ (∀ b ∈ fp, b ∈ own ++ dep ∨ s.heap.objs.size ≤ b) ∧ (∀ b ∈ wr, b ∈ own ∨ s.heap.objs.size ≤ b) ∧ Good h1
/-- the list at S as it is filled -/
abbrev lstAt (h : Heap) (S : Addr) (acc : Array Value) (c : Nat) : Prop := h.get? S = some { cls := .type "list", dict := none, data := .seq acc c, slots := #[] }
variable {Good : Heap → Prop}
theorem Feed.fill {R : Result → Shared → Prop} (F : Feed prog w A.in1 T r own dep n P Good) (g : Good s.heap) (hn : n ≤ sizeLine) {S : Addr} (hS : S ∉ own ++ dep) (res : Value) {c0 : Nat} (e0 : lstAt s.heap S #[] c0)
    (hR : ∀ h' tk acc c, (∀ b o, b ≠ S → b ∉ own → s.heap.get? b = some o → h'.get? b = some o) → lstAt h' S acc c → ItemsOf P acc n → R (.ok (.ret res)) { s with heap := h', toks := tk }) :
    wpAny (model prog w) A.in1 (Builtin.List.listExtendWith (.ref S) (.ref r) res)
      (fun fin s2 => match fin with | .done f => R (.ok f) s2 | .again k => k.quiet = true ∧ codeAny (model prog w) A k R s2) (fun e s2 => R (.error e) s2) s := by
  obtain ⟨I, h1, fp, wr, St, go, old, W, st, ffp, fwr, g1⟩ := F.start s g
  have lS : S < s.heap.objs.size := Heap.lt_size e0
  have nfp : S ∉ fp := fun z => (ffp S z).elim hS fun q => absurd lS (Nat.not_lt.mpr q)
  have run : ∀ (h : Heap) (c tk : Nat), St 0 h → (∀ b o, b ≠ S → s.heap.get? b = some o → h.get? b = some o) → lstAt h S #[] c →
      codeAny (model prog w) A (.builtin "list.extend.loop" ⟨[.ref S, .ref I, res], []⟩) R { s with heap := h, toks := tk } := fun h c tk st0 old0 e1 => by
    refine codeAny_extend_loopS W.toS hn S nfp res n 0 _ #[] c rfl (Nat.zero_le n) st0 e1 (ItemsOf.nil _) fun s2 acc c2 mv e2 its => ?_
    rw [Moved.eq_with mv]
    refine hR s2.heap s2.toks acc c2 (fun b o b1 b2 e => mv.heap b o (fun z => ?_) (old0 b o b1 e)) e2 its
    rcases List.mem_cons.mp z with q | q
    · exact b1 q
    · exact (fwr b q).elim b2 fun q2 => absurd (Heap.lt_size e) (Nat.not_lt.mpr q2)
  have neq : Builtin.List.listSameRef (.ref S) (.ref r) = false := by
    have : S ≠ r := fun z => hS (by rw [z]; exact F.mem)
    simp [Builtin.List.listSameRef, this]
  unfold Builtin.List.listExtendWith
  refine wpAny_bind (wpAny_typeOf (T := T) (F.kind s g) ?_)
  simp only [neq, F.noL, F.noT, Bool.or_false, Bool.false_eq_true, if_false]
  refine wpAny_bind (go _ _ (wpAny_bind (wpAny_holding (F.hint _ _ _ g1 fun b tk => ?_))))
  have e1 := old _ _ e0
  have oldS : ∀ b o, b ≠ S → s.heap.get? b = some o → h1.get? b = some o := fun b o _ e => old b o e
  refine wpAny_ite_split (fun _ => ?_) fun _ => wpAny_pure ⟨plainId_quiet PySem.F.plain_extend_loop _, run _ c0 _ st oldS e1⟩
  refine wpAny_bind (wpAny_rule (wpAny_bind ?_))
  show wpAny _ _ (updateSeq S (fun a => a.push .none) >>= fun _ => updateSeq S fun a => a.pop) _ _ _
  refine wpAny_bind (wpAny_updateSeq e1 rfl ?_)
  have e2 := Heap.get?_update_self (Obj.mapSeq fun a => a.push Value.none) e1 rfl
  refine wpAny_updateSeq (hz := by seq_fits) e2 rfl (wpAny_pure ⟨plainId_quiet PySem.F.plain_extend_loop _, run _ _ _ (W.frame 0 _ _ st fun b hb o e => ?_) (fun b o hb e => ?_) (Heap.get?_update_self (Obj.mapSeq fun a => a.pop) e2 rfl)⟩)
  · have hb2 : S ≠ b := fun z => nfp (by rw [z]; exact hb)
    rw [Heap.get?_update_other _ _ hb2, Heap.get?_update_other _ _ hb2]; exact e
  · rw [Heap.get?_update_other _ _ (Ne.symm hb), Heap.get?_update_other _ _ (Ne.symm hb)]; exact old b o e
theorem Feed.init {R : Result → Shared → Prop} (F : Feed prog w A.in1 T r own dep n P Good) (g : Good s.heap) (hn : n ≤ sizeLine) {S : Addr} (hS : S ∉ own ++ dep) (e0 : lstAt s.heap S #[] 0)
    (hR : ∀ h' tk acc c, (∀ b o, b ≠ S → b ∉ own → s.heap.get? b = some o → h'.get? b = some o) → lstAt h' S acc c → ItemsOf P acc n → R (.ok (.ret .none)) { s with heap := h', toks := tk }) :
    wpAny (model prog w) A.in1 (Builtin.«list.__init__» ⟨[.ref S, .ref r], []⟩)
      (fun fin s2 => match fin with | .done f => R (.ok f) s2 | .again k => k.quiet = true ∧ codeAny (model prog w) A k R s2) (fun e s2 => R (.error e) s2) s := by
  show wpAny _ _ (do let was ← Builtin.List.listItems (.ref S); Builtin.List.listUpdate (.ref S) (fun _ => #[]); letGo was.toList.reverse; Builtin.List.listExtendWith (.ref S) (.ref r) .none) _ _ s
  unfold Builtin.List.listItems
  refine wpAny_bind (wpAny_bind (wpAny_seqItems e0 rfl (wpAny_pure ?_)))
  show wpAny _ _ (updateSeq S (fun _ => #[]) >>= fun _ => letGo (#[] : Array Value).toList.reverse >>= fun _ => Builtin.List.listExtendWith (.ref S) (.ref r) Value.none) _ _ s
  have oth : ∀ b o, b ≠ S → s.heap.get? b = some o → (s.heap.update S (Obj.mapSeq fun _ => (#[] : Array Value))).get? b = some o := fun b o hb e => by rw [Heap.get?_update_other _ _ (Ne.symm hb)]; exact e
  refine wpAny_bind (wpAny_updateSeq e0 rfl (wpAny_bind (wpAny_letGo ?_)))
  refine F.fill (F.stay _ _ g fun b hb o e => oth b o (fun z => hS (by rw [← z]; exact hb)) e) hn hS .none (Heap.get?_update_self (Obj.mapSeq fun _ => (#[] : Array Value)) e0 rfl) fun h' tk acc c old e1 its => ?_
  exact hR h' tk acc c (fun b o b1 b2 e => old b o b1 b2 (oth b o b1 e)) e1 its
/-- list(x) -/
theorem Feed.list {Q : Value → Shared → Prop} (F : ∀ A', A'.handled = A.handled → Feed prog w A' T r own dep n P Good) (g : Good s.heap) (hn : n ≤ sizeLine)
    (hQ : ∀ h' tk acc c, (∀ b o, b ∉ own → s.heap.get? b = some o → h'.get? b = some o) → lstAt h' s.heap.objs.size acc c → ItemsOf P acc n → Q (.ref s.heap.objs.size) { s with heap := h', toks := tk }) :
    wpAny (model prog w) A (call (.type "list") [.ref r]) Q E s := by
  refine callType_codes (Q₁ := fun ob s1 => ob = .ref s.heap.objs.size ∧ s1 = { s with heap := s.heap.push { cls := .type "list", data := .seq #[] } }) PySem.F.called_list (PySem.F.typeCall_list_1 _) PySem.F.entry_list_init
    (code_list_new _ ⟨rfl, rfl⟩) fun ob s1 ⟨q1, q2⟩ => ?_
  subst q1 q2
  have e0 : lstAt (s.heap.push { cls := .type "list", data := .seq #[] }) s.heap.objs.size #[] 0 := Heap.get?_push_size _ rfl
  have F1 := F A.in1.in1 rfl
  refine ⟨⟨_, e0, rfl⟩, PySem.F.args_list_init_2 _ _, Feed.init (A := A.in1) F1 (F1.stay _ _ g fun b _ o e => Heap.get?_push_of_some _ e) hn (fun z => Nat.lt_irrefl _ (F1.low _ g _ z)) e0 fun h' tk acc c old e1 its => ?_⟩
  exact ⟨rfl, hQ h' tk acc c (fun b o hb e => old b o (Nat.ne_of_lt (Heap.lt_size e)) hb (Heap.get?_push_of_some _ e)) e1 its⟩
end
end Dl
namespace Dl
open PySem PySem.Spec PyProof.Rows L2
/-! ### list(range(..)) -/
theorem feed_range {prog : Program} {w : World} {A : Around} {lo hi : Int} {t u v : Tok} (r : Addr) (n : Nat) (hh : A.handled = none) (hn : (hi - lo).toNat = n) (hl : n ≤ 2 ^ 24) :
    Feed prog w A "range" r [] [r] n (fun i x => ∃ t, x = .int (lo + (i : Int) * 1) t) (fun h => IsRange h r lo hi 1 t u v) where
  kind := fun s g => ⟨_, g, rfl⟩
  mem := by simp
  low := fun h g b hb => by cases (List.mem_singleton.mp hb); exact Heap.lt_size g
  stay := fun h h' g k => k r (by simp) _ g
  noL := by decide
  noT := by decide
  hint := fun E s Q g q => wpAny_hint_range (n := n) g (by rw [rg_size, hn]) hl (q _ _)
  start := fun s g => by
    have e1 : lo + ((0 : Nat) : Int) * 1 = lo := by simp
    have e2 : (n : Int) - ((0 : Nat) : Int) = Builtin.Range.rangeSize lo hi 1 := by rw [rg_size, hn]; simp
    cases hs : Builtin.Range.small lo hi 1 with
    | true =>
      refine ⟨s.heap.objs.size, _, _, _, _, fun E Q q => wpAny_pyIter_range g hs q, fun b o e => Heap.get?_push_of_some _ e, Walks.range hh _ lo 1 n, ?_, fun b hb => .inr (by cases (List.mem_singleton.mp hb); exact Nat.le_refl _), fun b hb => .inr (by cases (List.mem_singleton.mp hb); exact Nat.le_refl _), Heap.get?_push_of_some _ g⟩
      rw [e1, e2]; exact Heap.get?_push_size _ rfl
    | false =>
      refine ⟨s.heap.objs.size, _, _, _, _, fun E Q q => wpAny_pyIter_longrange g hs q, fun b o e => Heap.get?_push_of_some _ e, Walks.longrange hh _ lo 1 n, ?_, fun b hb => .inr (by cases (List.mem_singleton.mp hb); exact Nat.le_refl _), fun b hb => .inr (by cases (List.mem_singleton.mp hb); exact Nat.le_refl _), Heap.get?_push_of_some _ g⟩
      rw [e1, e2]; exact Heap.get?_push_size _ rfl
def tLstRgU (te : L2.St → Hp → (Int → Int → Hp → Prop) → Prop) : TE := fun σ H Q => te σ H fun a b H1 => (b - a).toNat ≤ 100000 ∧ ∀ q, H1 q = none → Q (.ref q) (upd H1 q (.lst (rgV a b)))
theorem pe_listRgU {X : Cx} {e : Expr} {te : L2.St → Hp → (Int → Int → Hp → Prop) → Prop} {p pos : Pos} (hc : X.calm = true) (hg : Gl X "list") (hm : X.mg "list" = none) (he : PRg X e te) (na : starEach [e] X.env = (false, eval e X.env) :: starEach [] X.env) : PE X (.Call (.Name "list" p) [e] [] pos) (tLstRgU te) := by
  refine ⟨fun pins s σ H Q I h => Call_ (ld_blt I hg hm boot_list (PyProof.Rows.callWith_type1 (args_cons (thn (he pins s σ H _ I h) fun x s1 ⟨r, a, b, t, u, v, H1, ex, hr, I1, ok, q⟩ => args_nil ?_) na) na))⟩
  subst ex
  refine Feed.list (fun A' hA => feed_range r (b - a).toNat (by rw [hA]; exact I1.ok.hd hc) rfl (by omega)) hr (sz ok) fun h' tk acc c old e1 its => ?_
  refine ⟨.ref s1.heap.objs.size, upd H1 s1.heap.objs.size (.lst (rgV a b)), I1.laid (fun b o e => old b o (by simp) e) (Nat.le_refl _) (show ObjOk X.prog X.w _ _ _ (.lst (rgV a b)) from ⟨by rw [rgV_length]; exact sz ok, acc.toList, c, vals_rg its, by rw [Array.toArray_toList]; exact e1⟩), rfl, q _ (I1.hok.fresh (Nat.le_refl _))⟩
theorem rgV_rep {K : PySem.W.Frag} {Z : Hp} (a b : Int) : RepL K Z (rgV a b) (rgD a (b - a).toNat) := by
  unfold rgV rgD
  generalize (b - a).toNat = n
  suffices h : ∀ l : List Nat, RepL K Z (l.map fun i => V.int (a + (i : Nat))) (l.map fun i => D.int (a + (i : Nat))) from h _
  intro l
  induction l with
  | nil => exact .nil
  | cons x l ih => exact .cons (.int _) ih
def dLsRg1 (a : DTE) : DTE := fun ρ M Q R => a ρ M (fun x M1 => ∃ n, x = .int n ∧ n.toNat ≤ 100000 ∧ Q (.lst (rgD 0 n.toNat)) M1) R
def dLsRg2 (a b : DTE) : DTE := fun ρ M Q R => a ρ M (fun x M1 => b ρ M1 (fun y M2 => ∃ i j, x = .int i ∧ y = .int j ∧ (j - i).toNat ≤ 100000 ∧ Q (.lst (rgD i (j - i).toNat)) M2) R) R
section
variable {X : Cx} {W : WX} {a b e k v : Expr} {es : List Expr} {p pos p2 p3 : Pos} {Ta Tb : DTE}
theorem de_lsRg1 (hc : X.calm = true) (hm : X.mg "list" = none) (hm2 : X.mg "range" = none) (ha : DE X W a Ta) (hg : Gl X "list" := by rfl) (hg2 : Gl X "range" := by rfl) (na : starEach [a] X.env = (false, eval a X.env) :: starEach [] X.env := by rfl)
    (nb : starEach [.Call (.Name "range" p) [a] [] p2] X.env = (false, eval (.Call (.Name "range" p) [a] [] p2) X.env) :: starEach [] X.env := by rfl) : DE X W (.Call (.Name "list" p3) [.Call (.Name "range" p) [a] [] p2] [] pos) (dLsRg1 Ta) :=
  wkE (pe_listRgU hc hg hm (prg_1 hg2 hm2 ha na) nb) fun σ H Q ⟨Z, ρ, M, Qd, Rd, G, h⟩ => G.seq (rel1 := Rep X.K) h fun Z1 H1 M1 v x G1 _ rx h1 => by
    obtain ⟨n, rfl, hl, q⟩ := h1
    cases rx
    have e0 : (n - 0).toNat = n.toNat := by simp
    refine ⟨n, rfl, by rw [e0]; exact hl, fun t ht => G1.new (o := .lst _) ht (.lst upd_same (rgV_rep 0 n)) ?_⟩
    rw [e0]; exact q
theorem de_lsRg2 (hc : X.calm = true) (hm : X.mg "list" = none) (hm2 : X.mg "range" = none) (ha : DE X W a Ta) (hb : DE X W b Tb) (hg : Gl X "list" := by rfl) (hg2 : Gl X "range" := by rfl) (na : starEach [a, b] X.env = (false, eval a X.env) :: starEach [b] X.env := by rfl)
    (na2 : starEach [b] X.env = (false, eval b X.env) :: starEach [] X.env := by rfl) (hp : (backTo p2 (starEach [b] X.env)).any (·.1) = false := by rfl)
    (nb : starEach [.Call (.Name "range" p) [a, b] [] p2] X.env = (false, eval (.Call (.Name "range" p) [a, b] [] p2) X.env) :: starEach [] X.env := by rfl) : DE X W (.Call (.Name "list" p3) [.Call (.Name "range" p) [a, b] [] p2] [] pos) (dLsRg2 Ta Tb) :=
  wkE (pe_listRgU hc hg hm (prg_2 hg2 hm2 ha hb na na2 hp) nb) fun σ H Q ⟨Z, ρ, M, Qd, Rd, G, h⟩ => G.seq (rel1 := Rep X.K) h fun Z1 H1 M1 v x G1 _ rx h1 => G1.seq (rel1 := Rep X.K) h1 fun Z2 H2 M2 w y G2 _ ry h2 => by
    obtain ⟨i, j, rfl, rfl, hl, q⟩ := h2
    cases rx; cases ry
    exact ⟨i, j, rfl, rfl, hl, fun t ht => G2.new (o := .lst _) ht (.lst upd_same (rgV_rep i j)) q⟩
/-! ### dicts: empty, with one tuple as key -/
def dNewK : DTE := fun _ M Q _ => ∀ p, p ∉ keys M → Q (.obj p) ((p, .dK []) :: M)
def dNewT : DTE := fun _ M Q _ => ∀ p, p ∉ keys M → Q (.obj p) ((p, .dT []) :: M)
theorem de_newK : DE X W (.Dict [] [] pos) dNewK := wkE pe_dnewK fun σ H Q ⟨Z, ρ, M, Qd, Rd, G, h⟩ => fun p hp => G.newM (o := .dK []) (m := .dK []) hp ⟨[], upd_same, .nil⟩ (.obj p) (h p)
theorem de_newT : DE X W (.Dict [] [] pos) dNewT := wkE pe_dnewT fun σ H Q ⟨Z, ρ, M, Qd, Rd, G, h⟩ => fun p hp => G.newM (o := .dT []) (m := .dT []) hp ⟨[], upd_same, .nil⟩ (.obj p) (h p)
/-- {k: v}, k a tuple -/
def tOneT (tk tv : TE) : TE := fun σ H Q => ∀ p, H p = none → tk σ (upd H p (.dT [])) fun x H1 => tv σ H1 fun y H2 => ∃ b ks, x = .ref b ∧ H2 b = some (.tup (ks.map kV)) ∧ H2 p = some (.dT []) ∧ Q (.ref p) (upd H2 p (.dT [(ks, y)]))
theorem pe_oneT {tk tv : TE} (hu : X.A.units < cLine) (hk : PE X k tk) (hv : PE X v tv) : PE X (.Dict [some k] [v] pos) (tOneT tk tv) := by
  refine ⟨fun pins s σ H Q I h => ?_⟩
  have hn := I.hok.fresh (Nat.le_refl s.heap.objs.size)
  have I1 := I.laid (a := s.heap.objs.size) (o := .dT []) (h' := s.heap.push { cls := .type "dict", data := .dict #[] }) (t' := s.toks) (fun _ _ q => Heap.get?_push_of_some _ q) (Nat.le_refl _) (dt_empty s.heap I.big)
  rw [arm_eval_Dict, zip_pairTrees [some k] [v] X.env pos rfl rfl, dictDisplay_pairs _ (by intro z; cases z) (Nat.lt_of_lt_of_le (show 1 < 2 by decide) (by decide))]
  refine wpAny_bind (wpAny_standAt (wpAny_bind (wpAny_subDictH (knd := tupleKind (mixKind X.prog X.w)) (show X.A.units < cLine from hu) (show (1 : Nat) ≤ 15 by decide) ?_)))
  refine pairTrees_cons_walk (thn (hk.run pins _ σ _ _ I1 (h _ hn)) fun u s1 ⟨x, H1, J1, r1, q1⟩ => thn (hv.run pins s1 σ H1 _ J1 q1) fun w s2 ⟨y, H2, J2, r2, b, ks, ex, hb, hp, q2⟩ => pairTrees_nil_walk ?_)
  subst ex
  obtain rfl : u = Value.ref b := r1
  obtain ⟨z, hd, xs, rel, dd⟩ := dt_rd J2.hok (.inl hp)
  cases rel
  refine ⟨[(ks, b, w)], ⟨rfl, rfl, key_of J2.hok hb, trivial⟩, dd, fun h' tk dd' hs => wpAny_pure ?_⟩
  obtain ⟨o, es, ep, ho, h2, h3, h4, _, h5⟩ := dd'
  refine ⟨.ref s.heap.objs.size, _, d_write (t' := tk) J2 (by rw [hp]; exact True.intro) hs ⟨o, ho⟩ ?_, rfl, q2⟩
  refine ⟨by show 1 ≤ sizeLine; decide, hd, [(ks, b, w)], .cons ⟨rfl, ?_, r2⟩ .nil, o, es, ep, ho, h2, h3, h4, h5⟩
  rw [upd_ne (ne_of hb hp (fun z => nomatch z))]
  exact hb
def dOneT (a b : DTE) : DTE := fun ρ M Q R => ∀ p, p ∉ keys M → a ρ ((p, .dT []) :: M) (fun x M1 => b ρ M1 (fun y M2 => ∃ ks, x.keyT = some ks ∧ mget M2 p = some (.dT []) ∧ Q (.obj p) (mset M2 p (.dT [(ks, y)]))) R) R
theorem de_oneT (hu : X.A.units < cLine) (hk : DE X W k Ta) (hv : DE X W v Tb) : DE X W (.Dict [some k] [v] pos) (dOneT Ta Tb) :=
  wkE (pe_oneT hu hk hv) fun σ H Q ⟨Z, ρ, M, Qd, Rd, G, h⟩ => fun p hp => by
    obtain ⟨g, a, nk⟩ := G.at_.newM (o := .dT []) (m := .dT []) hp ⟨[], upd_same, .nil⟩
    refine (G.step g a).seq (rel1 := Rep X.K) (h p nk) fun Z1 H1 M1 u x G1 _ rx h1 => G1.seq (rel1 := Rep X.K) h1 fun Z2 H2 M2 w y G2 e2 ry h2 => ?_
    obtain ⟨ks, hk, e, q⟩ := h2
    obtain ⟨kv, hp2, al⟩ := G2.at_.get e
    cases al
    obtain ⟨b, eb, hb⟩ := keyT_rep (rx.mono e2) hk
    exact ⟨b, ks, eb, G2.at_.zh _ _ hb, hp2, G2.write (m' := .dT [(ks, y)]) e ⟨_, upd_same, .cons ⟨rfl, ry⟩ .nil⟩ (.obj p) q⟩
/-! ### sorted(d), tuples as keys -/
def rSortK (K : PySem.W.Frag) : List V → Hp → VK → Prop := fun vs H Q => ∃ (a : Addr) (kvs : List (List Key × V)), vs = [.ref a] ∧ H a = some (.dT kvs) ∧
  ∀ ks : List Addr, (ks.length = kvs.length ∧ ∀ (i : Nat) (k : List Key) (v : V), kvs[i]? = some (k, v) → ∃ q, ks[i]? = some q ∧ H q = some (.tup (k.map kV))) → ∃ ps : List (V × D), ps.map (·.1) = ks.map V.ref ∧ (∀ p ∈ ps, Dp K H p.1 p.2.py) ∧ PySem.W.AllAlike (ps.map fun p => p.2.py) ∧ PySem.W.Sortable (ps.map fun p => p.2.py) ∧
  (∀ p ∈ ps, p.2.py.depth ≤ 64) ∧ ∀ q, H q = none → Q (.ref q) (upd H q (.lst ((ps.mergeSort (PySem.W.dataLe false fun p => p.2.py)).map (·.1))))
end
end Dl
namespace Dl
open PySem PySem.Spec PyProof.Rows L2
/-! ### sorted(d), d a dict with tuples as keys; sorted(set(x)), x a list of tuples of ints -/
/-- a dict's keys as list(d), sorted(d) take them: nothing is known of them but the entries -/
theorem src_raw {prog : Program} {w : World} {d : Addr} {es : Array DictEntry} {ep : Nat} (lo : (d == sysModules) = false) : PySem.W.KdlSrc prog w "dict" d d es.size (fun i v => ∃ en, es[i]? = some en ∧ v = en.key) (fun h => DT.Raw h d es ep) where
  type := fun s g => DT.Raw.typeIs g
  there := fun h g => ⟨DT.Raw.lt g, DT.Raw.lt g⟩
  keep := fun h h' g k => DT.Raw.at' g fun o e => k d (.inl rfl) o e
  notList := by decide
  notTuple := by decide
  hint := fun A E s Q g q => PySem.W.kdl_hint_dict (DT.Raw.typeIs g) q
  iter := fun A s hh g => by
    obtain ⟨o, ho, hc, hd⟩ := id g
    have W : Walks prog w A s.heap.objs.size [s.heap.objs.size, d] [s.heap.objs.size] es.size (fun i v => ∃ en, es[i]? = some en ∧ v = en.key) (fun i h => h.IsKeyIter s.heap.objs.size d i es.size ep ∧ DT.Raw h d es ep) := {
      sub := fun b hb => by cases (List.mem_singleton.mp hb); simp
      frame := fun i h h' st k => ⟨Heap.IsKeyIter.at st.1 fun o e => k _ (by simp) o e, DT.Raw.at' st.2 fun o e => k d (by simp) o e⟩
      item := fun i s2 Q E hi st q => by
        obtain ⟨o2, ho2, hc2, hd2⟩ := id st.2
        refine next_key_item st.1 ho2 hd2 rfl (Array.getElem?_eq_getElem hi) fun h' it' sb => ?_
        have hne : d ≠ s.heap.objs.size := Nat.ne_of_lt (DT.Raw.lt g)
        exact q _ h' s2.toks ⟨_, Array.getElem?_eq_getElem hi, rfl⟩ ⟨it', DT.Raw.at' st.2 fun o e => (sb.2 d hne).trans e⟩ fun b o hb e => (sb.2 b (fun z => hb (by simp [z]))).trans e
      done := fun s2 Q E st q => by
        obtain ⟨o2, ho2, hc2, hd2⟩ := id st.2
        exact next_key_end hh st.1 ho2 hd2 rfl (Nat.le_refl _) fun h' eb => q h' s2.toks fun b o hb e => eb b o (fun z => hb (by simp [z])) e
      self := fun i s2 Q E st q => wpAny_pyIter_keyiter st.1 q }
    exact ⟨_, _, fun E Q q => iter_keys lo ho hc hd q, W, ⟨⟨_, Heap.get?_push_size _ rfl, rfl, rfl⟩, DT.Raw.push g _⟩⟩
theorem cr_sortK {X : Cx} (hc : X.calm = true) (hu : X.A.units + 70 < cLine) : CallR X (.builtin "sorted") (rSortK X.K) := by
  intro pins s σ H vs us Q I r h
  obtain ⟨a, kvs, rfl, hd, q⟩ := h
  obtain ⟨u, rfl, ru⟩ := Vals.one r
  cases ru
  obtain ⟨z, lo, xs, pr, o, es, ep, ho, hx, hdt, he, _⟩ := I.hok a _ hd
  have hl : es.size = kvs.length := (size_of_entries he).trans (Paired.length pr).symm
  have ent : ∀ (i : Nat) (k : List Key) (v : V), kvs[i]? = some (k, v) → ∃ (en : DictEntry) (b : Addr), es[i]? = some en ∧ en.key = .ref b ∧ H b = some (.tup (k.map kV)) := fun i k v e => by
    obtain ⟨b, hb, e1, e2, _⟩ := L2.paired_get pr e
    have qq := entry_at he i
    rw [hb] at qq
    exact ⟨_, b.2.1, qq, rfl, e2⟩
  refine Calls.call_function_entry PyProof.Rows.kind_sorted PyProof.Rows.plain_sorted PyProof.Rows.entry_sorted (PyProof.Rows.args_sorted1 _) ?_
  unfold Builtin.«sorted»
  refine wpAny_bind (m := checkCount "sorted" 1 1 _) (wpAny_pure (wpAny_bind (PySem.W.kdu_collect (A := X.A.in1) (src_raw (es := es) (ep := ep) lo) (I.ok.hd hc) ⟨o, ho, hx, hdt⟩ (by rw [hl]; exact z) fun h' tk acc kk its => ?_)))
  -- the keys' places
  have hks : ∀ (i : Nat), i < kvs.length → ∃ b, acc.toList[i]? = some (.ref b) ∧ ∃ k v, kvs[i]? = some (k, v) ∧ H b = some (.tup (k.map kV)) := fun i hi => by
    obtain ⟨en, b, e1, e2, e3⟩ := ent i kvs[i].1 kvs[i].2 (List.getElem?_eq_getElem hi)
    have hi2 : i < acc.size := by rw [its.1, hl]; exact hi
    obtain ⟨en', e4, e5⟩ := its.2 i acc[i] (Array.getElem?_eq_getElem hi2)
    rw [e1] at e4; cases e4
    exact ⟨b, by rw [Array.getElem?_toList, Array.getElem?_eq_getElem hi2, e5, e2], _, _, List.getElem?_eq_getElem hi, e3⟩
  have hal : acc.toList.length = kvs.length := by rw [Array.length_toList, its.1, hl]
  have refs : ∀ l : List Value, (∀ v ∈ l, ∃ b, v = Value.ref b) → ∃ ks : List Addr, l = ks.map Value.ref := by
    intro l
    induction l with
    | nil => exact fun _ => ⟨[], rfl⟩
    | cons v l ih =>
      intro hv
      obtain ⟨b, rfl⟩ := hv v (List.mem_cons_self ..)
      obtain ⟨ks, rfl⟩ := ih fun x hx => hv x (List.mem_cons_of_mem _ hx)
      exact ⟨b :: ks, rfl⟩
  obtain ⟨ks, hk⟩ := refs acc.toList fun v hv => by
    obtain ⟨i, hi, e⟩ := List.mem_iff_getElem.mp hv
    obtain ⟨b, eb, _⟩ := hks i (by rw [← hal]; exact hi)
    rw [List.getElem?_eq_getElem hi] at eb
    exact ⟨b, by rw [← e]; exact Option.some.inj eb⟩
  have hkl : ks.length = kvs.length := by rw [← hal, hk, List.length_map]
  obtain ⟨ps, p1, p2, p3, p4, p5, q⟩ := q ks ⟨hkl, fun i k v e => by
    have hi : i < kvs.length := (List.getElem?_eq_some_iff.mp e).1
    obtain ⟨b, eb, k', v', e1, e2⟩ := hks i hi
    rw [e] at e1; cases e1
    rw [hk, List.getElem?_map] at eb
    cases e3 : ks[i]? with
    | none => rw [e3] at eb; cases eb
    | some c => rw [e3] at eb; cases eb; exact ⟨_, rfl, e2⟩⟩
  have I1 : L2.Inv X pins σ H { s with heap := h', toks := tk } := I.kept kk
  have rv : Vals (ps.map (·.1)) acc.toList := by
    rw [p1, hk]
    clear p1 hk hkl
    induction ks with
    | nil => exact .nil
    | cons b ks ih => exact .cons rfl ih
  have hlen : acc.toList.length ≤ sizeLine := by rw [hal]; exact z
  refine wpAny_bind (wpAny_newList ?_ hlen)
  have eL : (h'.push (seqObj "list" acc.toList.toArray 0)).get? h'.objs.size = some (seqObj "list" acc.toList.toArray 0) := Heap.get?_push_size _ rfl
  have er : PySem.W.EachIs (fun u (p : V × D) => ∃ as, Reads (PySem.W.sortingHeap (h'.push (seqObj "list" acc.toList.toArray 0)) h'.objs.size acc.toList) u p.2.py as) acc.toList ps :=
    (each_reads I1 rv p2).mono fun _ _ ⟨as, rr⟩ => ⟨as, PyProof.Rows.Reads.keeps (fun b o e => PySem.W.sortingHeap_old (Nat.ne_of_lt (Heap.lt_size e)) (Heap.get?_push_of_some _ e)) rr⟩
  show wpAny _ _ _ _ _ { s with heap := h'.push (seqObj "list" acc.toList.toArray 0), toks := tk }
  refine wpAny_bind (wpAny_holding (wpAny_call_entry PyProof.Rows.slot_list_sort ⟨_, eL, rfl⟩ PyProof.Rows.entry_list_sort
    (PySem.W.list_sort_vals (s := { s with heap := h'.push (seqObj "list" acc.toList.toArray 0), toks := tk }) eL
      (PySem.W.SortsAt.data (ds := ps.map fun (p : V × D) => p.2.py) (PySem.W.each_map (R := fun v d => ∃ as, Reads (PySem.W.sortingHeap (h'.push (seqObj "list" acc.toList.toArray 0)) h'.objs.size acc.toList) v d as) (fun (p : V × D) => p.2.py) er) p3 p4 fun dd hdd => ?_) hlen ⟨_, rfl, ?_⟩)
    (PyProof.Rows.args_list_sort _)))
  · obtain ⟨p, hp, rfl⟩ := List.mem_map.mp hdd
    have := p5 p hp
    show X.A.units + 1 + 1 + _ < cLine
    omega
  have out := PySem.W.sortVals_data false (each_of (K := X.K) rv) er p3
  obtain ⟨c, hc'⟩ := sortedHeap_at (vs := acc.toList) (out := (PySem.W.sortVals (PySem.W.dataKind (PySem.W.sortingHeap (h'.push (seqObj "list" acc.toList.toArray 0)) h'.objs.size acc.toList) (ps.map fun (p : V × D) => p.2.py)) false acc.toList acc.toList).toArray) eL
  have hz : ((ps.mergeSort (PySem.W.dataLe false fun p => p.2.py)).map (·.1)).length ≤ sizeLine := by
    rw [List.length_map, List.length_mergeSort, ← List.length_map (f := (·.1)), p1, List.length_map, hkl]; exact z
  refine wpAny_pure ⟨_, rfl, .ref h'.objs.size, _, I1.laid (t' := tk) (fun b u e => ?_) (Nat.le_refl _)
    (show ObjOk X.prog X.w _ _ _ (.lst ((ps.mergeSort (PySem.W.dataLe false fun p => p.2.py)).map (·.1))) from ⟨hz, _, c, each_back out, hc'⟩), rfl, q _ (I1.hok.fresh (Nat.le_refl _))⟩
  have hb : b < h'.objs.size := Heap.lt_size e
  rw [sortedHeap_old (Nat.ne_of_lt hb) (by rw [size_push']; exact Nat.lt_succ_of_lt hb)]
  exact Heap.get?_push_of_some _ e
def kD : Key → D
  | .inl i => .int i
  | .inr x => .str x
def bSortK : BF := fun xs M Q => match xs with
  | [.obj p] => ∃ kvs, mget M p = some (.dT kvs) ∧ SortOk (kvs.map fun kv => D.tup (kv.1.map kD)) ∧ Q (.lst (sortD (kvs.map fun kv => D.tup (kv.1.map kD)))) M
  | _ => False
theorem kD_rep {K : PySem.W.Frag} {Z : Hp} : ∀ k : List Key, RepL K Z (k.map kV) (k.map kD)
  | [] => .nil
  | .inl i :: k => .cons (.int i) (kD_rep k)
  | .inr x :: k => .cons (.str x) (kD_rep k)
theorem kD_dp {K : PySem.W.Frag} {H : Hp} {b : Addr} {k : List Key} (h : H b = some (.tup (k.map kV))) : Dp K H (.ref b) (D.tup (k.map kD)).py := by
  simp only [D.py]
  refine .tup (SqT.of h) ?_
  clear h
  induction k with
  | nil => exact .nil
  | cons x k ih => cases x <;> (simp only [List.map_cons, kV, kD, D.pyL, D.py]; first | exact .cons (.int _) ih | exact .cons (.str _) ih)
/-- tuples that stand in H, told from now on as what never changes -/
theorem At.more {K : PySem.W.Frag} {σ : L2.St} {ρ : Dl.Env} {Z H : Hp} {M : Mem} (a : At K Z H σ ρ M) {b : Addr} {xs : List V} (h : H b = some (.tup xs)) : ∃ Z', Gr Z H M Z' H M ∧ At K Z' H σ ρ M ∧ Z' b = some (.tup xs) := by
  cases hz : Z b with
  | some o =>
    have e := a.zh b o hz
    rw [h] at e
    exact ⟨Z, Gr.refl _ _ _, a, by rw [hz, ← Option.some.inj e]⟩
  | none =>
    have hk : b ∉ keys M := fun z => by
      obtain ⟨x, hx, e⟩ := List.mem_map.mp z
      have m := (a.mem x.1 x.2 hx).2
      rw [show x.1 = b from e] at m
      revert m
      cases x.2 with
      | lst ds => rintro ⟨_, m, _⟩; rw [h] at m; cases m
      | can => rintro ⟨_, _, m, _⟩; rw [h] at m; cases m
      | dK kvs => rintro ⟨_, m, _⟩; rw [h] at m; cases m
      | dT kvs => rintro ⟨_, m, _⟩; rw [h] at m; cases m
      | ins c fs => rintro ⟨_, _, m, _⟩; rw [h] at m; cases m
    have g : Gr Z H M (upd Z b (.tup xs)) H M := ⟨Ex.new hz, fun c u e => by
      by_cases hb : c = b
      · rw [hb]; exact .inr (.inr (.inr ⟨xs, h⟩))
      · rw [upd_ne hb] at e; exact .inl e, fun c o e _ => e, fun p hp => .inl hp⟩
    exact ⟨_, g, a.later g.zz (a.toMemAt.freeze hz hk h), upd_same⟩
theorem At.moreL {K : PySem.W.Frag} {σ : L2.St} {ρ : Dl.Env} {H : Hp} {M : Mem} : ∀ (kvs : List (List Key × D)) (ks : List Addr) {Z : Hp}, At K Z H σ ρ M → ks.length = kvs.length → (∀ (i : Nat) (k : List Key) (v : D), kvs[i]? = some (k, v) → ∃ q, ks[i]? = some q ∧ H q = some (.tup (k.map kV))) →
    ∃ Z', Gr Z H M Z' H M ∧ At K Z' H σ ρ M ∧ RepL K Z' (ks.map V.ref) (kvs.map fun kv => D.tup (kv.1.map kD))
  | [], [], Z, a, _, _ => ⟨Z, Gr.refl _ _ _, a, .nil⟩
  | (k, v) :: kvs, q :: ks, Z, a, hl, h => by
    obtain ⟨q', e1, e2⟩ := h 0 k v rfl
    cases e1
    obtain ⟨Z1, g1, a1, z1⟩ := a.more e2
    obtain ⟨Z2, g2, a2, r2⟩ := At.moreL kvs ks a1 (Nat.succ.inj hl) fun i k v e => h (i + 1) k v e
    exact ⟨Z2, g1.trans g2, a2, .cons (.tup (g2.zz _ _ z1) (kD_rep k)) r2⟩
  | [], _ :: _, _, _, hl, _ => by cases hl
  | _ :: _, [], _, _, hl, _ => by cases hl
theorem cd_sortK {K : PySem.W.Frag} : CallD K (rSortK K) bSortK := by
  intro W σ ρ Z H M Qd Rd Q vs xs G rs h
  unfold bSortK at h
  split at h <;> first | exact h.elim | skip
  rename_i p
  obtain ⟨v, rfl, r⟩ := rs.one
  cases r
  obtain ⟨kvs, e, ⟨s1, s2, s3⟩, q⟩ := h
  obtain ⟨kv, hp, al⟩ := G.at_.get e
  refine ⟨p, kv, rfl, hp, fun ks ⟨hks1, hks2⟩ => ?_⟩
  have lk : ∀ {l : List (List Key × V)} {m : List (List Key × D)}, All2 (KvR K Z) l m → ∀ (i : Nat) (k : List Key) (v : D), m[i]? = some (k, v) → ∃ w, l[i]? = some (k, w) := by
    intro l m al
    induction al with
    | nil => intro i k v h; simp at h
    | @cons x y l m hh t ih =>
      intro i k v h
      cases i with
      | zero =>
        have : y = (k, v) := by simpa using h
        subst this
        obtain ⟨x1, x2⟩ := x
        exact ⟨x2, by have : x1 = k := hh.1; subst this; rfl⟩
      | succ i => obtain ⟨w, e⟩ := ih i k v (by simpa using h); exact ⟨w, by simpa using e⟩
  obtain ⟨Z1, g1, a1, r1⟩ := At.moreL (K := K) kvs ks G.at_ (by rw [hks1, al.length]) fun i k v h => by
    obtain ⟨w, e⟩ := lk al i k v h
    exact hks2 i k w e
  have G1 := G.step g1 a1
  obtain ⟨ps, h1, h2, h3⟩ := repL_pairs r1
  have ep : (kvs.map fun kv => D.tup (kv.1.map kD)).map D.py = ps.map fun p => p.2.py := by rw [← h2, List.map_map]; rfl
  rw [ep] at s2 s3
  have ok : ∀ p ∈ ps, p.2.ok := fun p hp => s1 _ (by rw [← h2]; exact List.mem_map.mpr ⟨p, hp, rfl⟩)
  refine ⟨ps, h1, fun p hp => (h3 p hp).dp G1.at_.zh (SeqAt.canLay_of_shaped (ok p hp)), s2, s3, fun p hp => ?_, fun t ht => ?_⟩
  · have z := ok p hp
    unfold D.ok SeqAt.shaped at z
    simpa using (by simpa using z : _ ∧ _).2
  · refine G1.new (o := .lst _) ht (.lst upd_same ?_) q
    rw [← h2, ← sortD_pairs]
    exact (pairs_repL fun p hp => h3 p (List.mem_mergeSort.mp hp)).mono (Ex.new (G1.at_.zh.free ht))
end Dl
namespace Dl
open PySem PySem.Spec PyProof.Rows L2
/-! ### sorted(set(x)), x a list of fewer than 64 tuples of ints -/
def tupI (k : List Int) : D := .tup (k.map D.int)
def dSetSort (a : DTE) : DTE := fun ρ M Q R => a ρ M (fun x M1 => ∃ (ks : List (List Int)) (d : Nat) (B : Int), x = .lst (ks.map tupI) ∧ ks.length < 64 ∧ 1 ≤ d ∧ (∀ k ∈ ks, k.length = d ∧ TS.Bd B k) ∧
  ∀ L : List (List Int), L.Nodup → (∀ k, k ∈ L ↔ k ∈ ks) → L.Pairwise (fun p q => TS.code B p ≤ TS.code B q) → Q (.lst (L.map tupI)) M1) R
theorem tupI_inv {K : PySem.W.Frag} {Z : Hp} : ∀ {ks : List (List Int)} {vs : List V}, RepL K Z vs (ks.map tupI) → ∃ ps : List (Addr × List Int), vs = ps.map (fun p => V.ref p.1) ∧ ps.map (·.2) = ks ∧ ∀ p ∈ ps, Z p.1 = some (.tup (p.2.map V.int))
  | [], _, .nil => ⟨[], rfl, rfl, fun _ h => by cases h⟩
  | k :: ks, _, .cons r t => by
    obtain ⟨ps, h1, h2, h3⟩ := tupI_inv t
    unfold tupI at r
    cases r with
    | tup hz rl =>
      rename_i a xs
      rw [rl.ints] at hz
      refine ⟨(a, k) :: ps, by rw [List.map_cons, h1], by rw [List.map_cons, h2], fun p hp => ?_⟩
      rcases List.mem_cons.mp hp with e | e
      · rw [e]; exact hz
      · exact h3 p e
section
variable {X : Cx} {W : WX} {a b e : Expr} {es : List Expr} {p pos p2 p3 : Pos} {Ta Tb : DTE}
theorem de_setSort (hc : X.calm = true) (hu : X.A.units + 64 < cLine) (hm : X.mg "sorted" = none) (hm2 : X.mg "set" = none) (ha : DE X W a Ta) (hg : Gl X "sorted" := by rfl) (hg2 : Gl X "set" := by rfl) (na : starEach [a] X.env = (false, eval a X.env) :: starEach [] X.env := by rfl)
    (nb : starEach [.Call (.Name "set" p) [a] [] p2] X.env = (false, eval (.Call (.Name "set" p) [a] [] p2) X.env) :: starEach [] X.env := by rfl) : DE X W (.Call (.Name "sorted" p3) [.Call (.Name "set" p) [a] [] p2] [] pos) (dSetSort Ta) :=
  wkE (pe_callB (cr_sortedT hc) hg hm (by decide +kernel) (pa_cons (pe_callTy (cr_setOfT hc hu) hg2 hm2 (by decide +kernel) (pa_cons ha pa_nil na) (by decide) (by decide) na rfl) pa_nil nb) (by decide) (by decide) nb rfl) fun σ H Q ⟨Z, ρ, M, Qd, Rd, G, h⟩ =>
    G.seq (rel1 := Rep X.K) h fun Z1 H1 M1 v x G1 _ rx h1 => by
      obtain ⟨ks, d, B, rfl, h64, hd, hB, q⟩ := h1
      cases rx with
      | lst hz rl =>
        rename_i l vs
        obtain ⟨ps, e1, e2, e3⟩ := tupI_inv rl
        have hks : ∀ p ∈ ps, p.2 ∈ ks := fun p hp => by rw [← e2]; exact List.mem_map.mpr ⟨p, hp, rfl⟩
        refine ⟨l, ps, rfl, by rw [← e1]; exact SqL.of (G1.at_.zh _ _ hz), fun p hp => SqT.of (G1.at_.zh _ _ (e3 p hp)), by rw [← List.length_map (f := (·.2)), e2]; exact h64, fun a L ha hL1 hL2 => ?_⟩
        have hZa : Z1 a = none := G1.at_.zh.free ha
        have hka : a ∉ keys M1 := fun z => by
          obtain ⟨x, hx, ex⟩ := List.mem_map.mp z
          obtain ⟨u, eu⟩ := (G1.at_.mem x.1 x.2 hx).2.some
          rw [show x.1 = a from ex, ha] at eu; cases eu
        have G2 := G1.step ((Gr.refl Z1 H1 M1).loose (o := SetTO X.prog X.w a L) ha) ⟨G1.at_.toMemAt.loose hZa hka, G1.at_.sl, G1.at_.ln⟩
        refine ⟨a, L, d, B, rfl, upd_same, fun p hp => SqT.of (G2.at_.zh _ _ (e3 p (hL1 p hp))), hd, fun p hp => hB _ (hks p (hL1 p hp)), fun L' t pm nd few pw ht => ?_⟩
        refine G2.new (o := .lst _) ht (.lst upd_same ?_) (q (L'.map (·.2)) nd (fun k => ⟨fun hk => ?_, fun hk => ?_⟩) (List.pairwise_map.mpr pw))
        · have mono : ∀ p ∈ L', (upd Z1 t (.lst (L'.map fun q => V.ref q.1))) p.1 = some (.tup (p.2.map V.int)) := fun p hp => (Ex.new (G2.at_.zh.free ht)) _ _ (e3 p (hL1 p (pm.mem_iff.mp hp)))
          revert mono
          generalize upd Z1 t (HO.lst (L'.map fun q => V.ref q.1)) = ZZ
          clear nd few pw pm
          induction L' with
          | nil => intro _; exact .nil
          | cons p L' ih => intro mono; exact .cons (.tup (mono p (List.mem_cons_self ..)) (repL_ints p.2)) (ih fun q hq => mono q (List.mem_cons_of_mem _ hq))
        · obtain ⟨p, hp, rfl⟩ := List.mem_map.mp hk
          exact hks p (hL1 p (pm.mem_iff.mp hp))
        · rw [← e2] at hk
          obtain ⟨p, hp, rfl⟩ := List.mem_map.mp hk
          obtain ⟨r, hr, er⟩ := List.mem_map.mp (hL2 p hp)
          exact List.mem_map.mpr ⟨r, pm.mem_iff.mpr hr, er⟩
end
end Dl
namespace Dl
open PySem PySem.Spec PyProof.Rows L2
/-! # What a law's derivations lean on -/
/-- a def of the module's top that keeps a contract -/
structure Has (P : Program) (w : World) (K : PySem.W.Frag) (mg : Str → Option Value) (base : Heap) (x : Str) (k : Nat) (ps : List Str) (S : DSp) : Prop where
  ex : ∃ fd, FnD P w K mg base k (He.ga K x) fd ps S ∧ L2.Binds K fd ps []
  g : mg x = some (.ref (He.ga K x))
  kp : PySem.W.keepIn K (.ref (He.ga K x)) = true
theorem binds_plain {K : PySem.W.Frag} {x qual : Str} {params : Arguments} {body : List Stmt} {scope : Scope} {f : Addr} {fd : FuncData} {ps : List Str} (F : FunD K x qual params body scope [] [] f fd) (b : L2.Binds K fd ps []) : L2.Binds K fd ps [] := b
theorem takes0 {X : Cx} : Takes X W0 := fun u s' ⟨a, B, sI, pins, σ, H, cls, d, e, I, nb, up, sky, na, os, ag, w⟩ => False.elim w
section
variable {X : Cx} {W : WX} {j k : Nat} {ps : List Str} {S : DSp} {x : Str} {p pos : Pos} {e : Expr} {es : List Expr} {TA : DTA}
theorem de_callH (h : Has X.prog X.w X.K X.mg X.base x k ps S) (hr : Room j X.A) (hk : k ≤ j) (tk : Takes X W) (ha : DA X W (e :: es) TA)
    (hg : Gl X x := by rfl) (hdb : (x == ("__debug__" : Str)) = false := by decide) (he : starEach (e :: es) X.env = (false, eval e X.env) :: starEach es X.env := by rfl) (hpl : (backTo pos (starEach es X.env)).any (·.1) = false := by rfl) :
    DE X W (.Call (.Name x p) (e :: es) [] pos) (dCall S TA) := by
  obtain ⟨fd, F, b⟩ := h.ex
  exact de_call F (hr.mono hk) h.g h.kp b tk ha hg hdb he hpl
theorem de_call0H (h : Has X.prog X.w X.K X.mg X.base x k ps S) (hr : Room j X.A) (hk : k ≤ j) (tk : Takes X W) (hg : Gl X x := by rfl) (hdb : (x == ("__debug__" : Str)) = false := by decide) : DE X W (.Call (.Name x p) [] [] pos) (dCall S dNil) := by
  obtain ⟨fd, F, b⟩ := h.ex
  exact de_call0 F (hr.mono hk) h.g h.kp b tk hg hdb
theorem ds_raiseH {m : Str} {i : Nat} {p1 p2 p3 : Pos} (hc : X.calm = true) (tk : Takes X W) (g : X.mg x = some (.ref (He.ga X.K x))) (c : (He.Fa.exc x).ok X.K = true) (hg : Gl X x := by rfl) (hd : (x == ("__debug__" : Str)) = false := by decide) :
    DS X W (.Raise (some (.Call (.Name x p1) [.Constant (.str m) i p2] [] p3)) none pos) (dRaise x) := by
  obtain ⟨q1, q2, q3, q4⟩ := He.exc_ok c
  exact ds_raise hc tk rfl q1 PySem.F.excBase_ValueError g q2 (raises_own q3 q4) hg hd
end
/-- a def's promise, from its datum and its derivation -/
theorem has_of {P : Program} {w : World} {K : PySem.W.Frag} {mg : Str → Option Value} {base : Heap} {x qual : Str} {params : Arguments} {body : List Stmt} {scope : Scope} {N ps : List Str} {k : Nat} {S : DSp} {T : DTS}
    (F : ∃ fd, FunD K x qual params body scope [] [] (He.ga K x) fd) (Sc : FnScope N ps scope) (g : mg x = some (.ref (He.ga K x))) (bn : ∀ {fd}, FunD K x qual params body scope [] [] (He.ga K x) fd → L2.Binds K fd ps []) (hl : ∀ ds M Q R, S ds M Q R → ds.length = ps.length)
    (hb : ∀ (f : Addr) (cdv : Value) (A : Around) (outer : List PySem.Env) (s : Shared) (H : Hp) (E : XK), Room k (A.deeper (envOfC qual scope s.heap.objs.size f cdv)) → DSs (cxOf (L2.CX P w) P w K mg base N qual scope f cdv A outer s H E) (WD E) body T)
    (hp : Keeps S N.length T) : Has P w K mg base x (k + 1) ps S := by
  obtain ⟨fd, F⟩ := F
  exact ⟨⟨fd, fnD F Sc hl (fun cdv A outer s H E hr => hb _ cdv A outer s H E hr) hp, bn F⟩, g, F.kp⟩
end Dl
namespace Dl
open PySem PySem.Spec PyProof.Rows L2
/-! # list(zip(x, y)), x and y lists; what is left -/
section
variable {prog : Program} {w : World} {A : Around} {E : Value → Shared → Prop} {s : Shared} {z TI TO i1 i2 l1 l2 : Addr} {xs ys : Array Value}
/-- the zip in the middle of its way: nothing given yet, or the last pair is still out -/
def ZMid (h : Heap) (z TI TO i1 i2 S N : Addr) (i : Nat) : Prop := (i = 0 ∧ IsZip h z TI TO .none ∧ ∃ a b, IsPair h TO a b) ∨ ∃ T f oT, IsZipHeld h z TI TO T f ∧ h.get? T = some oT ∧ N ≤ T
/-- the pairs made so far -/
def ZOut (h : Heap) (xs ys : Array Value) (N : Addr) (as : List Addr) : Prop := as.Nodup ∧ ∀ (j : Nat) (a : Addr), as[j]? = some a → N ≤ a ∧ ∃ x y, xs[j]? = some x ∧ ys[j]? = some y ∧ IsPair h a x y
theorem ZOut.keep {h h' : Heap} {N : Addr} {as : List Addr} (o : ZOut h xs ys N as) (k : ∀ b u, N ≤ b → h.get? b = some u → h'.get? b = some u) : ZOut h' xs ys N as := ⟨o.1, fun j a e => by
  obtain ⟨h1, x, y, h2, h3, h4⟩ := o.2 j a e
  exact ⟨h1, x, y, h2, h3, k a _ h1 h4⟩⟩
theorem zip_loop {R : Result → Shared → Prop} {S N : Addr} (hh : A.handled = none) (D : ZipApart z TI TO i1 i2 l1 l2) (hn : min xs.size ys.size ≤ sizeLine) (res : Value) (hS : S ≠ z ∧ S ≠ TI ∧ S ≠ TO ∧ S ≠ i1 ∧ S ≠ i2 ∧ S ≠ l1 ∧ S ≠ l2)
    (hN : ∀ b ∈ [S, z, TI, TO, i1, i2, l1, l2], b < N) (h0 : Heap)
    (hR : ∀ h tk acc c as, (∀ b o, b ∉ [S, z, TO, i1, i2] → h0.get? b = some o → h.get? b = some o) → lstAt h S acc c → acc.toList = as.map Value.ref → as.length = min xs.size ys.size → ZOut h xs ys N as → R (.ok (.ret res)) { s with heap := h, toks := tk }) :
    ∀ (k i : Nat) (h : Heap) (tk c : Nat) (acc : Array Value) (as : List Addr), min xs.size ys.size - i = k → i ≤ min xs.size ys.size → ZMid h z TI TO i1 i2 S N i → IsPair h TI (.ref i1) (.ref i2) → h.IsListIter i1 l1 i → h.IsListIter i2 l2 i → h.IsList l1 xs → h.IsList l2 ys →
      (∀ b o, b ∉ [S, z, TO, i1, i2] → h0.get? b = some o → h.get? b = some o) → lstAt h S acc c → acc.toList = as.map Value.ref → as.length = i → ZOut h xs ys N as → N ≤ h.objs.size →
      codeAny (model prog w) A (.builtin "list.extend.loop" ⟨[.ref S, .ref z, res], []⟩) R { s with heap := h, toks := tk } := by
  have lt : ∀ b, b ∈ [S, z, TI, TO, i1, i2, l1, l2] → ∀ a, N ≤ a → a ≠ b := fun b hb a ha q => Nat.lt_irrefl _ (Nat.lt_of_lt_of_le (hN b hb) (by rw [← q]; exact ha))
  intro k
  induction k with
  | zero =>
    intro i h tk c acc as hk hi mid pTI p1 p2 q1 q2 old eS ea la zo big
    refine codeAny_builtin PySem.F.entry_extend_loop ?_
    rw [Around.under_plainId PySem.F.plain_extend_loop _]
    show wpAny _ A.in1 (pyNext (.ref z) >>= _) _ _ _
    have hend : xs[i]? = none ∨ ys[i]? = none := by
      by_cases hx : xs.size ≤ i
      · exact .inl (Array.getElem?_eq_none hx)
      · exact .inr (Array.getElem?_eq_none (by omega))
    have fin : ∀ h' : Heap, (∀ c o, c ≠ z → c ≠ TO → c ≠ i1 → c ≠ i2 → h.get? c = some o → h'.get? c = some o) → R (.ok (.ret res)) { s with heap := h', toks := tk } := fun h' kk =>
      hR h' tk acc c as (fun b o hb e => kk b o (fun q => hb (by simp [q])) (fun q => hb (by simp [q])) (fun q => hb (by simp [q])) (fun q => hb (by simp [q])) (old b o hb e)) (kk S _ hS.1 hS.2.2.1 hS.2.2.2.1 hS.2.2.2.2.1 eS) ea (by omega)
        (zo.keep fun b u hb e => kk b u (lt z (by simp) b hb) (lt TO (by simp) b hb) (lt i1 (by simp) b hb) (lt i2 (by simp) b hb) e)
    rcases mid with ⟨_, mz, a, b, mo⟩ | ⟨T, f, oT, mz, mT, _⟩
    · exact wpAny_bind (wpAny_pyNext_zip_end (s := { s with heap := h, toks := tk }) hh D mz pTI mo p1 p2 q1 q2 hend fun h' kk => wpAny_pure (fin h' kk))
    · exact wpAny_bind (wpAny_pyNext_zip_end_held (s := { s with heap := h, toks := tk }) hh D mz mT pTI p1 p2 q1 q2 hend fun h' kk => wpAny_pure (fin h' fun c o c1 _ c3 c4 e => kk c o c1 c3 c4 e))
  | succ k ih =>
    intro i h tk c acc as hk hi mid pTI p1 p2 q1 q2 old eS ea la zo big
    have hlt : i < min xs.size ys.size := by omega
    have hx := Array.getElem?_eq_getElem (show i < xs.size by omega)
    have hy := Array.getElem?_eq_getElem (show i < ys.size by omega)
    have hsz : acc.size = i := by rw [← Array.length_toList, ea, List.length_map, la]
    refine codeAny_builtin PySem.F.entry_extend_loop ?_
    rw [Around.under_plainId PySem.F.plain_extend_loop _]
    show wpAny _ A.in1 (pyNext (.ref z) >>= _) _ _ _
    have fin : ∀ h' : Heap, ZMid h' z TI TO i1 i2 S N (i + 1) → h'.IsListIter i1 l1 (i + 1) → h'.IsListIter i2 l2 (i + 1) → IsPair h' h.objs.size xs[i] ys[i] → h'.objs.size = h.objs.size + 1 → (∀ c o, c ≠ z → c ≠ TO → c ≠ i1 → c ≠ i2 → h.get? c = some o → h'.get? c = some o) →
        wpAny (model prog w) A.in1 (updateSeq S (fun a => a.push (Value.ref h.objs.size)) >>= fun _ => again (.builtin "list.extend.loop" ⟨[.ref S, .ref z, res], []⟩)) (fun fin s' => match fin with | .done f => R (.ok f) s' | .again c' => c'.quiet = true ∧ codeAny (model prog w) A c' R s') (fun e s' => R (.error e) s') { s with heap := h', toks := tk } := fun h' m1 r1 r2 pT sz kk => by
      have eS' : lstAt h' S acc c := kk S _ hS.1 hS.2.2.1 hS.2.2.2.1 hS.2.2.2.2.1 eS
      have oth : ∀ b o, b ≠ S → h'.get? b = some o → (h'.update S (Obj.mapSeq fun a => a.push (Value.ref h.objs.size))).get? b = some o := fun b o hb e => by rw [Heap.get?_update_other _ _ (Ne.symm hb)]; exact e
      have nS : h.objs.size ≠ S := Nat.ne_of_gt (Heap.lt_size eS)
      refine wpAny_bind (wpAny_updateSeq eS' rfl (wpAny_pure ⟨plainId_quiet PySem.F.plain_extend_loop _, ih (i + 1) _ tk _ (acc.push (Value.ref h.objs.size)) (as ++ [h.objs.size]) (by omega) hlt ?_ (oth TI _ (Ne.symm hS.2.1) (kk TI _ D.TIz D.TITO D.TIi1 D.TIi2 pTI)) (r1.at fun o e => oth i1 o (Ne.symm hS.2.2.2.1) e) (r2.at fun o e => oth i2 o (Ne.symm hS.2.2.2.2.1) e)
        (q1.at fun o e => oth l1 o (Ne.symm hS.2.2.2.2.2.1) (kk l1 o D.l1z D.l1TO D.l1i1 D.l1i2 e)) (q2.at fun o e => oth l2 o (Ne.symm hS.2.2.2.2.2.2) (kk l2 o D.l2z D.l2TO D.l2i1 D.l2i2 e)) (fun b o hb e => oth b o (fun q => hb (by simp [q])) (kk b o (fun q => hb (by simp [q])) (fun q => hb (by simp [q])) (fun q => hb (by simp [q])) (fun q => hb (by simp [q])) (old b o hb e)))
        (Heap.get?_update_self _ eS' rfl) (by rw [Array.toList_push, ea, List.map_append]; rfl) (by rw [List.length_append, la]; rfl) ?_ (by rw [Heap.size_update, sz]; exact Nat.le_succ_of_le big)⟩) (by rw [hsz]; omega) (by show (acc.push _).size ≤ sizeLine + 1; rw [Array.size_push, hsz]; omega))
      · rcases m1 with ⟨q, _⟩ | ⟨T, f, oT, m2, m3, m4⟩
        · cases q
        · exact .inr ⟨T, f, oT, oth z _ (Ne.symm hS.1) m2, oth T _ (lt S (by simp) T m4) m3, m4⟩
      · refine ⟨List.nodup_append.mpr ⟨zo.1, List.nodup_cons.mpr ⟨by simp, List.nodup_nil⟩, fun a ha b hb => ?_⟩, ?_⟩
        · rw [List.mem_singleton.mp hb]
          obtain ⟨j, hj, e⟩ := List.mem_iff_getElem.mp ha
          obtain ⟨_, _, _, _, _, g4⟩ := zo.2 j a (by rw [List.getElem?_eq_getElem hj, e])
          exact Nat.ne_of_lt (Heap.lt_size g4)
        intro j a hj
        by_cases h1 : j < as.length
        · rw [List.getElem?_append_left h1] at hj
          obtain ⟨g1, x, y, g2, g3, g4⟩ := zo.2 j a hj
          exact ⟨g1, x, y, g2, g3, oth a _ (lt S (by simp) a g1) (kk a _ (lt z (by simp) a g1) (lt TO (by simp) a g1) (lt i1 (by simp) a g1) (lt i2 (by simp) a g1) g4)⟩
        · rw [List.getElem?_append_right (Nat.le_of_not_lt h1)] at hj
          have hj0 : j = i := by
            by_cases h2 : j - as.length = 0
            · omega
            · rw [List.getElem?_eq_none (by simp; omega)] at hj; cases hj
          subst hj0
          rw [show j - as.length = 0 by omega] at hj
          cases hj
          exact ⟨big, _, _, hx, hy, oth _ _ nS pT⟩
    rcases mid with ⟨_, mz, a, b, mo⟩ | ⟨T, f, oT, mz, mT, mN⟩
    · refine wpAny_bind (wpAny_pyNext_zip_item (s := { s with heap := h, toks := tk }) D mz pTI mo p1 p2 q1 q2 hx hy fun h' z' TO' r1 r2 pT sz kk => fin h' (.inr ⟨h.objs.size, false, _, z', pT, big⟩) r1 r2 pT sz kk)
    · refine wpAny_bind (wpAny_pyNext_zip_item_held (s := { s with heap := h, toks := tk }) D mz mT pTI p1 p2 q1 q2 hx hy fun h' z' r1 r2 pT sz kk => fin h' (.inr ⟨T, true, oT, z', kk T oT (lt z (by simp) T mN) (lt i1 (by simp) T mN) (lt i2 (by simp) T mN) mT, mN⟩) r1 r2 pT sz fun c o c1 _ c3 c4 e => kk c o c1 c3 c4 e)
/-- list(zip(x, y)), the zip just made -/
theorem zip_list {Q : Value → Shared → Prop} (hh : A.handled = none) (D : ZipApart z TI TO i1 i2 l1 l2) (hn : min xs.size ys.size ≤ sizeLine) (hz : IsZip s.heap z TI TO .none) (hTI : IsPair s.heap TI (.ref i1) (.ref i2)) (hTO : ∃ a b, IsPair s.heap TO a b) (p1 : s.heap.IsListIter i1 l1 0) (p2 : s.heap.IsListIter i2 l2 0) (q1 : s.heap.IsList l1 xs) (q2 : s.heap.IsList l2 ys)
    (hQ : ∀ h' tk acc c as, (∀ b o, b ∉ [z, TO, i1, i2] → s.heap.get? b = some o → h'.get? b = some o) → lstAt h' s.heap.objs.size acc c → acc.toList = as.map Value.ref → as.length = min xs.size ys.size → ZOut h' xs ys (s.heap.objs.size + 1) as → Q (.ref s.heap.objs.size) { s with heap := h', toks := tk }) :
    wpAny (model prog w) A (call (.type "list") [.ref z]) Q E s := by
  have lt : ∀ b o, s.heap.get? b = some o → b < s.heap.objs.size := fun b o e => Heap.lt_size e
  have g1 : ∃ o, s.heap.get? i1 = some o := by obtain ⟨o, e, _⟩ := p1; exact ⟨o, e⟩
  have g2 : ∃ o, s.heap.get? i2 = some o := by obtain ⟨o, e, _⟩ := p2; exact ⟨o, e⟩
  have g3 : ∃ o, s.heap.get? l1 = some o := by obtain ⟨o, n, c, e, _⟩ := q1; exact ⟨o, by assumption⟩
  have g4 : ∃ o, s.heap.get? l2 = some o := by obtain ⟨o, n, c, e, _⟩ := q2; exact ⟨o, by assumption⟩
  have all : ∀ b ∈ [z, TI, TO, i1, i2, l1, l2], b < s.heap.objs.size := fun b hb => by
    simp only [List.mem_cons, List.not_mem_nil, or_false] at hb
    rcases hb with q | q | q | q | q | q | q
    · rw [q]; exact lt _ _ hz
    · rw [q]; exact lt _ _ hTI
    · rw [q]; obtain ⟨_, _, e⟩ := hTO; exact lt _ _ e
    · rw [q]; obtain ⟨_, e⟩ := g1; exact lt _ _ e
    · rw [q]; obtain ⟨_, e⟩ := g2; exact lt _ _ e
    · rw [q]; obtain ⟨_, e⟩ := g3; exact lt _ _ e
    · rw [q]; obtain ⟨_, e⟩ := g4; exact lt _ _ e
  have nS : ∀ b ∈ [z, TI, TO, i1, i2, l1, l2], s.heap.objs.size ≠ b := fun b hb => Nat.ne_of_gt (all b hb)
  have hS : s.heap.objs.size ≠ z ∧ s.heap.objs.size ≠ TI ∧ s.heap.objs.size ≠ TO ∧ s.heap.objs.size ≠ i1 ∧ s.heap.objs.size ≠ i2 ∧ s.heap.objs.size ≠ l1 ∧ s.heap.objs.size ≠ l2 := ⟨nS _ (by simp), nS _ (by simp), nS _ (by simp), nS _ (by simp), nS _ (by simp), nS _ (by simp), nS _ (by simp)⟩
  refine callType_codes (Q₁ := fun ob s1 => ob = .ref s.heap.objs.size ∧ s1 = { s with heap := s.heap.push { cls := .type "list", data := .seq #[] } }) PySem.F.called_list (PySem.F.typeCall_list_1 _) PySem.F.entry_list_init
    (code_list_new _ ⟨rfl, rfl⟩) fun ob s1 ⟨e1, e2⟩ => ?_
  subst e1 e2
  have eS : lstAt (s.heap.push { cls := .type "list", data := .seq #[] }) s.heap.objs.size #[] 0 := Heap.get?_push_size _ rfl
  refine ⟨⟨_, eS, rfl⟩, PySem.F.args_list_init_2 _ _, ?_⟩
  show wpAny _ _ (do let was ← Builtin.List.listItems (.ref s.heap.objs.size); Builtin.List.listUpdate (.ref s.heap.objs.size) (fun _ => #[]); letGo was.toList.reverse; Builtin.List.listExtendWith (.ref s.heap.objs.size) (.ref z) .none) _ _ _
  unfold Builtin.List.listItems
  refine wpAny_bind (wpAny_bind (wpAny_seqItems eS rfl (wpAny_pure ?_)))
  show wpAny _ _ (updateSeq s.heap.objs.size (fun _ => #[]) >>= fun _ => letGo (#[] : Array Value).toList.reverse >>= fun _ => Builtin.List.listExtendWith (.ref s.heap.objs.size) (.ref z) Value.none) _ _ _
  refine wpAny_bind (wpAny_updateSeq eS rfl (wpAny_bind (wpAny_letGo ?_)))
  have e1 := Heap.get?_update_self (Obj.mapSeq fun _ => (#[] : Array Value)) eS rfl
  have old : ∀ b o, s.heap.get? b = some o → ((s.heap.push { cls := .type "list", data := .seq #[] }).update s.heap.objs.size (Obj.mapSeq fun _ => (#[] : Array Value))).get? b = some o := fun b o e => by
    rw [Heap.get?_update_other _ _ (Nat.ne_of_gt (lt b o e))]; exact Heap.get?_push_of_some _ e
  have run : ∀ (h : Heap) (c tk : Nat), (∀ b o, s.heap.get? b = some o → h.get? b = some o) → h.objs.size = s.heap.objs.size + 1 → lstAt h s.heap.objs.size #[] c →
      codeAny (model prog w) A.in1 (.builtin "list.extend.loop" ⟨[.ref s.heap.objs.size, .ref z, .none], []⟩) (fun r s' => ∃ v, r = .ok (.ret v) ∧ (v = .none ∧ Q (.ref s.heap.objs.size) s')) { s with heap := h, toks := tk } := fun h c tk o1 sz e => by
    refine zip_loop (A := A.in1) (R := fun r s' => ∃ v, r = .ok (.ret v) ∧ (v = .none ∧ Q (.ref s.heap.objs.size) s')) (S := s.heap.objs.size) (N := s.heap.objs.size + 1) hh D hn .none hS (fun b hb => ?_) h (fun h' tk' acc c' as kk e' ea la zo => ⟨_, rfl, rfl, hQ h' tk' acc c' as (fun b o hb q => kk b o (fun qq => ?_) (o1 b o q)) e' ea la zo⟩) _ 0 h tk c #[] [] rfl (Nat.zero_le _)
      (.inl ⟨rfl, o1 _ _ hz, let ⟨a, b, q⟩ := hTO; ⟨a, b, o1 _ _ q⟩⟩) (o1 _ _ hTI) (p1.at fun o q => o1 _ _ q) (p2.at fun o q => o1 _ _ q) (q1.at fun o q => o1 _ _ q) (q2.at fun o q => o1 _ _ q) (fun b o _ q => q) e rfl rfl ⟨List.nodup_nil, fun j a hj => by simp at hj⟩ (by rw [sz]; exact Nat.le_refl _)
    · rcases List.mem_cons.mp hb with q | q
      · rw [q]; exact Nat.lt_succ_self _
      · exact Nat.lt_succ_of_lt (all b q)
    · rcases List.mem_cons.mp qq with q2 | q2
      · exact absurd (lt b o q) (by rw [q2]; exact Nat.lt_irrefl _)
      · exact hb q2
  have neq : Builtin.List.listSameRef (.ref s.heap.objs.size) (.ref z) = false := by simp [Builtin.List.listSameRef, hS.1]
  have zl : typeLookup (.type "zip") "__len__" = pure none := am_miss_of_fast (by decide +kernel)
  have zh : typeLookup (.type "zip") "__length_hint__" = pure none := am_miss_of_fast (by decide +kernel)
  have n1 : (Value.type "zip" == Value.type "list") = false := by decide
  have n2 : (Value.type "zip" == Value.type "tuple") = false := by decide
  have sz1 : ((s.heap.push { cls := .type "list", data := .seq #[] }).update s.heap.objs.size (Obj.mapSeq fun _ => (#[] : Array Value))).objs.size = s.heap.objs.size + 1 := by rw [Heap.size_update, Heap.size_push]
  unfold Builtin.List.listExtendWith
  refine wpAny_bind (wpAny_typeOf (T := "zip") ⟨_, old _ _ hz, rfl⟩ ?_)
  simp only [neq, n1, n2, Bool.or_false, Bool.false_eq_true, if_false]
  refine wpAny_bind (wpAny_pyIter_zip (old _ _ hz) (wpAny_bind (wpAny_holding ?_)))
  unfold Builtin.List.listLengthHint
  refine wpAny_bind (wpAny_specialOf (T := "zip") ⟨_, old _ _ hz, rfl⟩ zl ?_)
  refine wpAny_bind (wpAny_specialOf (T := "zip") ⟨_, old _ _ hz, rfl⟩ zh ?_)
  refine wpAny_pure (wpAny_ite_split (fun _ => ?_) fun no => absurd rfl no)
  refine wpAny_bind (wpAny_rule (wpAny_bind ?_))
  show wpAny _ _ (updateSeq s.heap.objs.size (fun a => a.push .none) >>= fun _ => updateSeq s.heap.objs.size fun a => a.pop) _ _ _
  refine wpAny_bind (wpAny_updateSeq e1 rfl ?_)
  have e2 := Heap.get?_update_self (Obj.mapSeq fun a => a.push Value.none) e1 rfl
  refine wpAny_updateSeq (hz := by seq_fits) e2 rfl (wpAny_pure ⟨plainId_quiet PySem.F.plain_extend_loop _, codeAny_mono (run _ _ _ (fun b o e => ?_) ?_ (Heap.get?_update_self (Obj.mapSeq fun a => a.pop) e2 rfl)) fun r s' ⟨v, h1, h2⟩ => ?_⟩)
  · rw [Heap.get?_update_other _ _ (Nat.ne_of_gt (lt b o e)), Heap.get?_update_other _ _ (Nat.ne_of_gt (lt b o e))]; exact old b o e
  · rw [Heap.size_update, Heap.size_update]; exact sz1
  · rw [h1]; exact h2
end
end Dl
namespace Dl
open PySem PySem.Spec PyProof.Rows L2
/-- pairs laid at new places -/
def layT (H : Hp) : List (Addr × V × V) → Hp
  | [] => H
  | (t, x, y) :: r => upd (layT H r) t (.tup [x, y])
theorem layT_ne {H : Hp} : ∀ {r : List (Addr × V × V)} {b : Addr}, b ∉ r.map (·.1) → layT H r b = H b
  | [], _, _ => rfl
  | (t, x, y) :: r, b, h => by
    unfold layT
    rw [upd_ne (fun z => h (by rw [z]; exact List.mem_cons_self ..)), layT_ne fun z => h (List.mem_cons_of_mem _ z)]
theorem layT_at {H : Hp} : ∀ {r : List (Addr × V × V)} {p : Addr × V × V}, (r.map (·.1)).Nodup → p ∈ r → layT H r p.1 = some (.tup [p.2.1, p.2.2])
  | (t, x, y) :: r, p, nd, h => by
    have nd' := List.nodup_cons.mp nd
    unfold layT
    rcases List.mem_cons.mp h with e | e
    · rw [e]; exact upd_same
    · rw [upd_ne (fun z => nd'.1 (by rw [← z]; exact List.mem_map.mpr ⟨p, e, rfl⟩))]
      exact layT_at nd'.2 e
theorem hok_add {P : Program} {w : World} {H : Hp} {h : Heap} {a : Addr} {o : HO} (x : HOk P w H h) (hn : H a = none) (new : ObjOk P w (upd H a o) h a o) : HOk P w (upd H a o) h := fun b u e => by
  by_cases hb : b = a
  · subst hb; rw [upd_same] at e; cases e; exact new
  · rw [upd_ne hb] at e
    exact (x b u e).stay (fun c v _ q => q) (fun c q => by rw [upd_ne (ne_of_none q hn)]; exact q) fun c xs q => by rw [upd_ne (ne_of_none q hn)]; exact q
theorem un_add {fs ex : List Addr} {H H1 : Hp} {h h' : Heap} {a : Addr} {o : HO} (u : Un fs ex H H1 h h') (hp : h.objs.size ≤ a) (hn : H1 a = none) : Un fs ex H (upd H1 a o) h h' where
  keep := u.keep
  slot := u.slot
  free := fun b ob q n hx => by rw [upd_ne (Nat.ne_of_lt (Nat.lt_of_lt_of_le (Heap.lt_size q) hp))]; exact u.free b ob q n hx
  there := u.there
  tups := fun b xs q => by have := u.tups b xs q; rw [upd_ne (ne_of_none this hn)]; exact this
  frzs := fun b ob v q => by have := u.frzs b ob v q; rw [upd_ne (ne_of_none this hn)]; exact this
  tbls := fun b ps q => by obtain ⟨m, e⟩ := u.tbls b ps q; exact ⟨m, by rw [upd_ne (ne_of_none e hn)]; exact e⟩
theorem lay_all {P : Program} {w : World} {fs ex : List Addr} {H : Hp} {h h' : Heap} (x : HOk P w H h') (u : Un fs ex H H h h') : ∀ (r : List (Addr × V × V)), (r.map (·.1)).Nodup → (∀ p ∈ r, h.objs.size ≤ p.1 ∧ H p.1 = none ∧ ∃ a b, L2.RelV p.2.1 a ∧ L2.RelV p.2.2 b ∧ IsPair h' p.1 a b) → HOk P w (layT H r) h' ∧ Un fs ex H (layT H r) h h'
  | [], _, _ => ⟨x, u⟩
  | (t, y, z) :: r, nd, hp => by
    have nd' := List.nodup_cons.mp nd
    obtain ⟨h1, h2⟩ := lay_all x u r nd'.2 fun p q => hp p (List.mem_cons_of_mem _ q)
    obtain ⟨g1, g2, a, b, ra, rb, g3⟩ := hp _ (List.mem_cons_self ..)
    have hn : layT H r t = none := by rw [layT_ne nd'.1]; exact g2
    exact ⟨hok_add h1 hn ⟨by show 2 ≤ sizeLine; decide, [a, b], .cons ra (.cons rb .nil), ⟨_, g3, rfl, _, rfl⟩⟩, un_add h2 g1 hn⟩
def tLsZip (ta tb : TE) : TE := fun σ H Q => ta σ H fun x H1 => tb σ H1 fun y H2 => ∃ a b xs ys, x = .ref a ∧ y = .ref b ∧ H2 a = some (.lst xs) ∧ H2 b = some (.lst ys) ∧
  ∀ (r : List (Addr × V × V)), r.map (·.2) = xs.zip ys → (r.map (·.1)).Nodup → (∀ p ∈ r, H2 p.1 = none) → ∀ q, layT H2 r q = none → Q (.ref q) (upd (layT H2 r) q (.lst (r.map fun p => V.ref p.1)))
section
variable {X : Cx} {W : WX} {a b : Expr} {p pos p2 p3 : Pos} {Ta Tb : DTE}
theorem pe_lsZip {ta tb : TE} (hc : X.calm = true) (hm : X.mg "list" = none) (hm2 : X.mg "zip" = none) (ha : PE X a ta) (hb : PE X b tb) (hg : Gl X "list") (hg2 : Gl X "zip") (na : starEach [a, b] X.env = (false, eval a X.env) :: starEach [b] X.env)
    (na2 : starEach [b] X.env = (false, eval b X.env) :: starEach [] X.env) (hp : (backTo p2 (starEach [b] X.env)).any (·.1) = false)
    (nb : starEach [.Call (.Name "zip" p) [a, b] [] p2] X.env = (false, eval (.Call (.Name "zip" p) [a, b] [] p2) X.env) :: starEach [] X.env) : PE X (.Call (.Name "list" p3) [.Call (.Name "zip" p) [a, b] [] p2] [] pos) (tLsZip ta tb) := by
  refine ⟨fun pins s σ H Q I h => ?_⟩
  refine Call_ (ld_blt I hg hm boot_list (PyProof.Rows.callWith_type1 (args_cons ?_ nb) nb))
  refine Call_ (ld_blt I hg2 hm2 PyProof.Rows.boot_zip (PyProof.Rows.callWith_type1 (args_cons (thn (ha.run pins s σ H _ I h) fun u s1 ⟨x, H1, I1, r1, q1⟩ => one_arg hb I1 q1 (fun v s2 y H2 I2 r2 q => ?_) na2) na) na hp))
  obtain ⟨l1, l2, xs, ys, rfl, rfl, e1, e2, q⟩ := q
  cases r1; cases r2
  obtain ⟨z1, its1, n1, rv1, o1⟩ := I2.hok l1 _ e1
  obtain ⟨z2, its2, n2, rv2, o2⟩ := I2.hok l2 _ e2
  have p1 : s2.heap.IsList l1 its1.toArray := ⟨_, o1, rfl, _, rfl⟩
  have p2 : s2.heap.IsList l2 its2.toArray := ⟨_, o2, rfl, _, rfl⟩
  have hl1 := rv1.length
  have hl2 := rv2.length
  refine call_zip_2 p1 p2 fun hz iz iTI iTO it1 it2 hsz hk => args_nil ?_
  have D := PySem.W.ktu_apart s2.heap.objs.size l1 l2 (Heap.lt_size o1) (Heap.lt_size o2)
  refine zip_list (s := { s2 with heap := hz }) (I2.ok.hd hc) D (by simp only [List.size_toArray]; omega) iz iTI ⟨_, _, iTO⟩ it1 it2 (p1.at fun o e => hk _ o e) (p2.at fun o e => hk _ o e) fun h' tk acc c as old eL ea la zo => ?_
  have old0 : ∀ b o, s2.heap.get? b = some o → h'.get? b = some o := fun b o e => old b o (fun q => by
    have hlt := Heap.lt_size e
    simp only [List.mem_cons, List.not_mem_nil, or_false] at q
    rcases q with q | q | q | q <;> (rw [q] at hlt; exact absurd hlt (Nat.not_lt.mpr (by first | exact Nat.le_add_right _ _ | exact Nat.le_refl _)))) (hk b o e)
  have I3 : L2.Inv X pins σ H2 { s2 with heap := h', toks := tk } := I2.kept old0
  -- the pairs made, with what they hold
  have big : ∀ t, hz.objs.size + 1 ≤ t → s2.heap.objs.size ≤ t := fun t ht => by rw [hsz] at ht; exact Nat.le_trans (Nat.le_add_right _ 6) ht
  have hlen : as.length = (xs.zip ys).length := by rw [la, List.length_zip]; simp only [List.size_toArray]; omega
  have nd : as.Nodup := zo.1
  have m1 : (as.zip (xs.zip ys)).map (·.2) = xs.zip ys := List.map_snd_zip (by omega)
  have m2 : (as.zip (xs.zip ys)).map (·.1) = as := List.map_fst_zip (by omega)
  have hat : ∀ p ∈ as.zip (xs.zip ys), hz.objs.size + 1 ≤ p.1 ∧ ∃ a b, L2.RelV p.2.1 a ∧ L2.RelV p.2.2 b ∧ IsPair h' p.1 a b := fun p hp => by
    obtain ⟨j, hj, e⟩ := List.mem_iff_getElem.mp hp
    have hj1 : j < as.length := by rw [List.length_zip] at hj; omega
    have hj2 : j < (xs.zip ys).length := by omega
    have hx : j < xs.length := by rw [List.length_zip] at hj2; omega
    have hy : j < ys.length := by rw [List.length_zip] at hj2; omega
    rw [List.getElem_zip, List.getElem_zip] at e
    obtain ⟨g1, u, v, g2, g3, g4⟩ := zo.2 j as[j] (List.getElem?_eq_getElem hj1)
    obtain ⟨u', eu, ru⟩ := rv1.get (List.getElem?_eq_getElem hx)
    obtain ⟨v', ev, rv⟩ := rv2.get (List.getElem?_eq_getElem hy)
    have g2' : its1[j]? = some u := by simpa using g2
    have g3' : its2[j]? = some v := by simpa using g3
    rw [g2'] at eu; rw [g3'] at ev
    cases eu; cases ev
    rw [← e]
    exact ⟨g1, u, v, ru, rv, g4⟩
  have fr : ∀ t, s2.heap.objs.size ≤ t → H2 t = none := fun t ht => I2.hok.fresh ht
  obtain ⟨k1, k2⟩ := lay_all (fs := X.fs) (ex := []) (h := s2.heap) I3.hok ⟨fun b o e _ _ _ => old0 b o e, fun b o e _ _ _ => ⟨o.slots, old0 b o e⟩, fun b o e n _ => n, fun b o e _ => ⟨o, old0 b o e⟩, fun b v e => e, fun b o v e => e, fun b ps e => ⟨#[], by rw [e]; simp⟩⟩ (as.zip (xs.zip ys)) (by rw [m2]; exact nd) fun p hp => by
    obtain ⟨g1, g2⟩ := hat p hp
    exact ⟨big _ g1, fr _ (big _ g1), g2⟩
  have hq : layT H2 (as.zip (xs.zip ys)) hz.objs.size = none := by
    rw [layT_ne]
    · exact fr _ (by rw [hsz]; exact Nat.le_add_right _ _)
    · rw [m2]
      intro q
      obtain ⟨j, hj, e⟩ := List.mem_iff_getElem.mp q
      obtain ⟨g1, _⟩ := zo.2 j as[j] (List.getElem?_eq_getElem hj)
      rw [e] at g1
      exact Nat.lt_irrefl _ g1
  have I4 : L2.Inv X pins σ (layT H2 (as.zip (xs.zip ys))) { s2 with heap := h', toks := tk } := I2.un (t' := tk) k2 k1
  refine ⟨.ref hz.objs.size, _, ?_, rfl, q (as.zip (xs.zip ys)) m1 (by rw [m2]; exact nd) (fun p hp => fr _ (big _ (hat p hp).1)) _ hq⟩
  refine I2.un (t' := tk) (un_add k2 (by rw [hsz]; exact Nat.le_add_right _ _) hq) (hok_add k1 hq ⟨?_, as.map Value.ref, c, ?_, by rw [← ea, Array.toArray_toList]; exact eL⟩)
  · rw [List.length_map, List.length_zip, hlen, Nat.min_self, List.length_zip]; omega
  · have : (as.zip (xs.zip ys)).map (fun p => V.ref p.1) = as.map V.ref := by rw [← m2, List.map_map, m2]; rfl
    rw [this]
    clear this m1 m2 hat k1 k2 hq I4 q la ea zo nd hlen
    induction as with
    | nil => exact .nil
    | cons t as ih => exact .cons rfl ih
def dLsZip (a b : DTE) : DTE := fun ρ M Q R => a ρ M (fun x M1 => b ρ M1 (fun y M2 => ∃ xs ys, x = .lst xs ∧ y = .lst ys ∧ Q (.lst (zipD xs ys)) M2) R) R
theorem At.lay {K : PySem.W.Frag} {σ : L2.St} {ρ : Dl.Env} {Z H : Hp} {M : Mem} (a : At K Z H σ ρ M) : ∀ (r : List (Addr × V × V)), (r.map (·.1)).Nodup → (∀ p ∈ r, H p.1 = none) → Gr Z H M (layT Z r) (layT H r) M ∧ At K (layT Z r) (layT H r) σ ρ M
  | [], _, _ => ⟨Gr.refl _ _ _, a⟩
  | (t, x, y) :: r, nd, hp => by
    have nd' := List.nodup_cons.mp nd
    obtain ⟨g, a1⟩ := At.lay a r nd'.2 fun p q => hp p (List.mem_cons_of_mem _ q)
    obtain ⟨g2, a2⟩ := a1.new (o := .tup [x, y]) (p := t) (by rw [layT_ne nd'.1]; exact hp _ (List.mem_cons_self ..))
    exact ⟨g.trans g2, a2⟩
theorem zip_rep {K : PySem.W.Frag} {Z Z0 : Hp} (e : Ex Z0 Z) : ∀ {r : List (Addr × V × V)} {xs ys : List V} {ds es : List D}, r.map (·.2) = xs.zip ys → (∀ p ∈ r, Z p.1 = some (.tup [p.2.1, p.2.2])) → RepL K Z0 xs ds → RepL K Z0 ys es → RepL K Z (r.map fun p => V.ref p.1) (zipD ds es)
  | [], [], _, _, _, _, _, .nil, _ => by simp only [zipD]; exact .nil
  | [], _ :: _, [], _, _, _, _, .cons _ _, .nil => by simp only [zipD]; exact .nil
  | [], _ :: _, _ :: _, _, _, h, _, _, _ => by cases h
  | _ :: _, [], _, _, _, h, _, _, _ => by cases h
  | _ :: _, _ :: _, [], _, _, h, _, _, _ => by cases h
  | p :: r, x :: xs, y :: ys, _, _, h, hz, .cons r1 t1, .cons r2 t2 => by
    have h1 : p.2 = (x, y) := (List.cons.inj h).1
    have h2 := (List.cons.inj h).2
    have z := hz p (List.mem_cons_self ..)
    rw [h1] at z
    simp only [zipD]
    exact .cons (.tup z (.cons (r1.mono e) (.cons (r2.mono e) .nil))) (zip_rep e h2 (fun q hq => hz q (List.mem_cons_of_mem _ hq)) t1 t2)
theorem de_lsZip (hc : X.calm = true) (hm : X.mg "list" = none) (hm2 : X.mg "zip" = none) (ha : DE X W a Ta) (hb : DE X W b Tb) (hg : Gl X "list" := by rfl) (hg2 : Gl X "zip" := by rfl) (na : starEach [a, b] X.env = (false, eval a X.env) :: starEach [b] X.env := by rfl)
    (na2 : starEach [b] X.env = (false, eval b X.env) :: starEach [] X.env := by rfl) (hp : (backTo p2 (starEach [b] X.env)).any (·.1) = false := by rfl)
    (nb : starEach [.Call (.Name "zip" p) [a, b] [] p2] X.env = (false, eval (.Call (.Name "zip" p) [a, b] [] p2) X.env) :: starEach [] X.env := by rfl) : DE X W (.Call (.Name "list" p3) [.Call (.Name "zip" p) [a, b] [] p2] [] pos) (dLsZip Ta Tb) :=
  wkE (pe_lsZip hc hm hm2 ha hb hg hg2 na na2 hp nb) fun σ H Q ⟨Z, ρ, M, Qd, Rd, G, h⟩ => G.seq (rel1 := Rep X.K) h fun Z1 H1 M1 v x G1 _ rx h1 => G1.seq (rel1 := Rep X.K) h1 fun Z2 H2 M2 w y G2 e2 ry h2 => by
    obtain ⟨ds, es, rfl, rfl, q⟩ := h2
    replace rx := rx.mono e2
    cases rx with
    | lst hz rl =>
      cases ry with
      | lst hz2 rl2 =>
        refine ⟨_, _, _, _, rfl, rfl, G2.h hz, G2.h hz2, fun r h1 h2 h3 t ht => ?_⟩
        obtain ⟨g, a'⟩ := At.lay G2.at_ r h2 h3
        refine (G2.step g a').new (o := .lst _) ht (.lst upd_same ?_) q
        exact (zip_rep g.zz h1 (fun p hp => layT_at h2 hp) rl rl2).mono (Ex.new (a'.zh.free ht))
/-! the rest -/
def oNeg : D → Mem → DQ → Prop
  | .int i, M, Q => Q (.int (-i)) M
  | _, _, _ => False
theorem ud_neg {K : PySem.W.Frag} : UnD K (rU fun i => .int (-i)) oNeg := by
  intro W σ ρ Z H M Qd Rd Q v x G rx h
  cases x <;> first | exact h.elim | skip
  cases rx; exact ⟨_, rfl, G.val (.int _) h⟩
def oIAdd : D → D → Mem → DQ → Prop
  | .int i, .int j, M, Q => Q (.int (i + j)) M
  | _, _, _, _ => False
theorem od_ipadd {K : PySem.W.Frag} : OpD K (ipI fun i j => i + j) oIAdd := by
  intro W σ ρ Z H M Qd Rd Q v w x y G rx ry h
  cases x <;> cases y <;> first | exact h.elim | skip
  cases rx; cases ry; exact ⟨_, _, rfl, rfl, G.val (.int _) h⟩
theorem od_ipsub {K : PySem.W.Frag} : OpD K (ipI fun i j => i - j) oSub := by
  intro W σ ρ Z H M Qd Rd Q v w x y G rx ry h
  cases x <;> cases y <;> first | exact h.elim | skip
  cases rx; cases ry; exact ⟨_, _, rfl, rfl, G.val (.int _) h⟩
/-- a list of two ints that draws are made from -/
def dNewCan (a : DTA) : DTE := fun ρ M Q R => a ρ M (fun xs M1 => ∃ i j, xs = [.int i, .int j] ∧ CanOk i j ∧ ∀ p, p ∉ keys M1 → Q (.obj p) ((p, .can) :: M1)) R
theorem de_newCan {es : List Expr} {TA : DTA} (h : DA X W es TA) : DE X W (.List es pos) (dNewCan TA) :=
  wkE (pe_lst h) fun σ H Q ⟨Z, ρ, M, Qd, Rd, G, h⟩ => G.seq (rel1 := RepL X.K) h fun Z1 H1 M1 vs xs G1 _ rs h1 => by
    obtain ⟨i, j, rfl, c, q⟩ := h1
    obtain ⟨v, w, rfl, r1, r2⟩ := rs.two
    cases r1; cases r2
    exact ⟨by show 2 ≤ sizeLine; decide, fun p hp => G1.newM (o := .lst _) (m := .can) hp ⟨i, j, upd_same, c⟩ (.obj p) (q p)⟩
end
end Dl
namespace L2
theorem Room.u65 {k : Nat} {A : PySem.Around} (r : Room k A) : A.units + 65 < PySem.cLine := by have := r.un; omega
theorem Room.u64 {k : Nat} {A : PySem.Around} (r : Room k A) : A.units + 64 < PySem.cLine := by have := r.un; omega
theorem Room.u70 {k : Nat} {A : PySem.Around} (r : Room k A) : A.units + 70 < PySem.cLine := by have := r.un; omega
theorem Room.u1 {k : Nat} {A : PySem.Around} (r : Room k A) : A.units + 1 < PySem.cLine := by have := r.un; omega
theorem Room.u0 {k : Nat} {A : PySem.Around} (r : Room k A) : A.units < PySem.cLine := by have := r.un; omega
end L2
namespace Dl
open PySem
/-! # Reasoning over transformers -/
theorem fg_self {M : Mem} {P : Mem → Prop} (h : P M) : Fg M P := ⟨M, .refl M, h⟩
theorem fg_drop {M : Mem} {P : Mem → Prop} {p : Nat × MO} (h : Fg M P) : Fg (p :: M) P := let ⟨M', s, q⟩ := h; ⟨M', .cons _ s, q⟩
/-- a comprehension whose elements change nothing -/
theorem lc_pure {g : DTG} {tt : DTT} {te : DTE} {ρ : Env} {M : Mem} {Q : DQ} (c : D → Bool) (f : D → D) : ∀ (ds acc : List D),
    (∀ d ∈ ds, ∀ (k1 : DQ) (k2 : Mem → Prop), (c d = true → k1 (f d) M) → (c d = false → k2 M) → g d ρ M fun ρ1 M1 => tt ρ1 M1 (fun b M2 => if b = true then te ρ1 M2 k1 noR else k2 M2) noR) →
    Q (.lst (acc ++ (ds.filter c).map f)) M → dLcL g tt te ρ Q ds acc M
  | [], acc, _, q => by simpa [dLcL] using q
  | d :: ds, acc, h, q => by
    unfold dLcL
    refine h d (List.mem_cons_self ..) _ _ (fun hc => ?_) fun hc => ?_
    · refine lc_pure c f ds _ (fun e he => h e (List.mem_cons_of_mem _ he)) ?_
      rw [List.filter_cons_of_pos hc] at q
      simpa using q
    · refine lc_pure c f ds _ (fun e he => h e (List.mem_cons_of_mem _ he)) ?_
      rw [List.filter_cons_of_neg (by rw [hc]; exact Bool.false_ne_true)] at q
      exact q
theorem lc_map {g : DTG} {te : DTE} {ρ : Env} {M : Mem} {Q : DQ} (f : D → D) (ds : List D) (h : ∀ d ∈ ds, ∀ k : DQ, k (f d) M → g d ρ M fun ρ1 M1 => te ρ1 M1 k noR) (q : Q (.lst (ds.map f)) M) : dLcL g dYes te ρ Q ds [] M :=
  lc_pure (fun _ => true) f ds [] (fun d hd k1 k2 h1 _ => by simpa [dYes] using h d hd k1 (h1 rfl)) (by rw [List.filter_eq_self.mpr (fun _ _ => rfl)]; simpa using q)
/-- a loop by its invariant -/
theorem loop_inv {g : DTG} {t : DTS} {E : DEnds} {R : DR} (I : Nat → Env → Mem → Prop) (ds : List D) {ρ : Env} {M : Mem} (h0 : I 0 ρ M)
    (hs : ∀ (i : Nat) (d : D) (ρ : Env) (M : Mem) (N : Env → Mem → Prop), ds[i]? = some d → I i ρ M → (∀ ρ' M', I (i + 1) ρ' M' → N ρ' M') → g d ρ M fun ρ1 M1 => t { nx := N, rt := E.rt, bk := E.nx, ct := N } ρ1 M1 R)
    (hd : ∀ ρ M, I ds.length ρ M → E.nx ρ M) : dLoop g t E R ds ρ M := by
  suffices h : ∀ (k i : Nat) (ρ : Env) (M : Mem), i + k = ds.length → I i ρ M → dLoop g t E R (ds.drop i) ρ M from by simpa using h ds.length 0 ρ M (by omega) h0
  intro k
  induction k with
  | zero =>
    intro i ρ M hi hI
    have e : i = ds.length := by omega
    subst e
    rw [List.drop_length]
    exact hd ρ M hI
  | succ k ih =>
    intro i ρ M hi hI
    have hl : i < ds.length := by omega
    rw [List.drop_eq_getElem_cons hl]
    exact hs i ds[i] ρ M _ (List.getElem?_eq_getElem hl) hI fun ρ' M' h' => ih (i + 1) ρ' M' (by omega) h'
theorem while_inv {c : DTT} {t : DTS} {E : DEnds} {R : DR} (I : Nat → Env → Mem → Prop) {m : Nat} {ρ : Env} {M : Mem} (h0 : I m ρ M)
    (hs : ∀ (m : Nat) (ρ : Env) (M : Mem) (N : Env → Mem → Prop), I m ρ M → (∀ m' ρ' M', m' < m → I m' ρ' M' → N ρ' M') → c ρ M (fun b M1 => if b = true then t { nx := N, rt := E.rt, bk := E.nx, ct := N } ρ M1 R else E.nx ρ M1) R) : dWhile c t E ρ M R := by
  refine ⟨m + 1, ?_⟩
  suffices h : ∀ (n m : Nat) (ρ : Env) (M : Mem), m < n → I m ρ M → dWh c t E R n ρ M from h (m + 1) m ρ M (Nat.lt_succ_self m) h0
  intro n
  induction n with
  | zero => intro m ρ M h; omega
  | succ n ih =>
    intro m ρ M h hI
    exact hs m ρ M _ hI fun m' ρ' M' hm h' => ih m' ρ' M' (by omega) h'
/-! ### weekdays, houses -/
/-- the figure of a weekday -/
def fg (d : Nat) : Str := ⟨#[48 + d]⟩
def wk (l : List Nat) : Str := ⟨(l.map fun d => 48 + d).toArray⟩
theorem wk_length (l : List Nat) : (wk l).length = l.length := by simp [wk, Str.length]
theorem wk_ch (l : List Nat) : chD (wk l) = l.map fun d => D.str (fg d) := by simp [chD, wk, fg]
structure Hs where
  work : List Nat
  run : List Nat
  speed : Nat
def Hs.d (h : Hs) : D := .tup [.str (wk h.work), .str (wk h.run), .int h.speed]
/-- ascending weekdays -/
def Asc (l : List Nat) : Prop := l.Pairwise (· < ·) ∧ ∀ d ∈ l, d < 7
structure Hs.Ok (h : Hs) : Prop where
  aw : Asc h.work
  ar : Asc h.run
  w0 : h.work ≠ []
  r0 : h.run ≠ []
  s1 : 1 ≤ h.speed
  s3 : h.speed ≤ 3
  fit : h.work.length ≤ h.speed * h.run.length
instance (l : List Nat) : Decidable (Asc l) := by unfold Asc; exact inferInstance
def Hs.okB (h : Hs) : Bool := decide (Asc h.work) && decide (Asc h.run) && !h.work.isEmpty && !h.run.isEmpty && decide (1 ≤ h.speed) && decide (h.speed ≤ 3) && decide (h.work.length ≤ h.speed * h.run.length)
theorem Hs.ok_of {h : Hs} (e : h.okB = true) : h.Ok := by
  unfold Hs.okB at e
  simp only [Bool.and_eq_true, decide_eq_true_eq, Bool.not_eq_true', List.isEmpty_eq_false_iff] at e
  obtain ⟨⟨⟨⟨⟨⟨h1, h2⟩, h3⟩, h4⟩, h5⟩, h6⟩, h7⟩ := e
  exact ⟨h1, h2, h3, h4, h5, h6, h7⟩
theorem asc_len : ∀ {l : List Nat} {n m : Nat}, l.Pairwise (· < ·) → (∀ d ∈ l, n ≤ d ∧ d < m) → n ≤ m → l.length + n ≤ m
  | [], n, m, _, _, h => by simpa using h
  | d :: l, n, m, p, h, _ => by
    obtain ⟨p1, p2⟩ := List.pairwise_cons.mp p
    obtain ⟨h1, h2⟩ := h d (List.mem_cons_self ..)
    have := asc_len (n := d + 1) (m := m) p2 (fun e he => ⟨p1 e he, (h e (List.mem_cons_of_mem _ he)).2⟩) h2
    rw [List.length_cons]; omega
theorem Asc.len {l : List Nat} (a : Asc l) : l.length ≤ 7 := asc_len (n := 0) a.1 (fun d hd => ⟨Nat.zero_le _, a.2 d hd⟩) (Nat.zero_le _)
end Dl
namespace Dl
open PySem
/-! # houses: what its defs promise, over typed data -/
theorem at_fig {n : Nat} (h : n < 7) : L2.atI ("0123456" : Str).cps.toList (n : Int) = some (48 + n) := by
  have e : n = 0 ∨ n = 1 ∨ n = 2 ∨ n = 3 ∨ n = 4 ∨ n = 5 ∨ n = 6 := by omega
  rcases e with e | e | e | e | e | e | e <;> (subst e; decide)
def md7 (day : Int) : Nat := (day % 7).toNat
theorem md7_lt (day : Int) : md7 day < 7 := by unfold md7; omega
theorem md7_cast (day : Int) : ((md7 day : Nat) : Int) = day % 7 := by unfold md7; omega
def S_figure_of : DSp := fun ds M Q R => ∃ day : Int, ds = [.int day] ∧ Q (.str (fg (md7 day))) M
def t_figure_of : DTS := dRet (dOp dIx (dC (.str ("0123456" : Str))) (dOp oMod (dVar 0) (dC (.int 7))))
theorem kp_figure_of : Keeps S_figure_of 1 t_figure_of := by
  rintro ds M Q R ⟨day, rfl, q⟩
  simp only [t_figure_of, dVar, dC, dOp, dUn, dTst, dAnd, dOr, dNot, dAndV, dOrV, dNotV, dIfE, dNil, dCons, dTup, dLst, dNew, dCall, dB, dChain, dNext, dSeq, dDrop, dRet, dRetN, dIf, dAsg, gN, gSeq, gT, dPar2, dPar3, dAug, dRaise, dFor, dYes, dLc, dels, del, put, nth, startN, dFrz, dIx, dPart, dNoP, dSl, dApp, dPut, dM1, dFmt, dJs, dJoined, dIsi, dRg1, dRg2, dLsI, dTpI, dStI, dZip, dEnL, dLsRg1, dLsRg2, dNewK, dNewT, dOneT, dSetSort, dLsZip, dNewCan, oAdd, oSub, oMul, oDiv, oMod, oPow, oLt, oLe, oGt, oGe, oIs, oIsNot, oNeg, oIAdd, D.isN, bLen, bInt, bStr, bAbs, bBool, bList, bTuple, D.ty, D.isInt, D.isBool, D.isStr, D.isTup, D.isLst, List.map_cons, List.map_nil, List.length_cons, List.length_nil, List.replicate_succ, List.replicate_zero, List.cons_append, List.nil_append, Option.isSome_some, if_true, if_false, Bool.false_eq_true, reduceIte, Nat.reduceAdd, Nat.reduceSub, Bool.not_true, Bool.not_false, true_and, and_true]
  refine ⟨by decide, _, _, by decide, rfl, ?_, fg_self q⟩
  rw [← md7_cast]; exact at_fig (md7_lt day)
/-- a figure in a text of weekdays -/
theorem fg_mem {d : Nat} {l : List Nat} : (48 + d) ∈ (wk l).cps.toList ↔ d ∈ l := by
  simp [wk]
theorem in_wk (d : Nat) (l : List Nat) (M : Mem) (Q : DQ) (n : Bool) (q : Q (.bl (xor n (decide (d ∈ l)))) M) : qIn n (.str (fg d)) (.str (wk l)) M Q := by
  refine ⟨48 + d, rfl, ?_⟩
  rw [decide_eq_decide.mpr (fg_mem (d := d) (l := l))]; exact q
theorem at_wk {l : List Nat} {i : Nat} {d : Nat} (h : l[i]? = some d) : L2.atI (wk l).cps.toList (i : Int) = some (48 + d) := by
  have hi := (List.getElem?_eq_some_iff.mp h).1
  unfold L2.atI L2.ixN
  have e : (wk l).cps.toList = l.map fun d => 48 + d := by simp [wk]
  rw [e, List.length_map, if_pos (by omega), if_pos (by omega)]
  show (l.map fun d => 48 + d)[((i : Int)).toNat]? = _
  rw [List.getElem?_map, Int.toNat_natCast, h]; rfl
theorem lt_fg (a b : Nat) : decide ((fg a).cps.toList < (fg b).cps.toList) = decide (a < b) := by
  apply decide_eq_decide.mpr
  simp [fg, List.cons_lt_cons_iff]
/-- rounds ahead of a day -/
def rb (h : Hs) (day : Int) : Int := day / 7 * h.work.length + (h.work.filter fun d => decide (d < md7 day)).length
def S_rounds_before : DSp := fun ds M Q R => ∃ (h : Hs) (day : Int), h.Ok ∧ ds = [h.d, .int day] ∧ Q (.int (rb h day)) M
def t_rounds_before : DTS := dRet (dOp oAdd (dOp oMul (dOp oDiv (dVar 1) (dC (.int 7))) (dB bLen (dCons (dOp dIx (dVar 0) (dC (.int 0))) (dNil)))) (dB bLen (dCons (dLc [2] (dStI (dOp dIx (dVar 0) (dC (.int 0)))) (gN 2) (dTst (dOp oLt (dVar 2) (dCall S_figure_of (dCons (dVar 1) (dNil))))) (dVar 2)) (dNil))))
theorem small_of {i : Int} (h1 : -1000000 ≤ i) (h2 : i ≤ 1000000) : small64 i := ⟨by omega, by omega⟩
theorem ix0 (a b c : D) : L2.atI [a, b, c] 0 = some a := rfl
theorem ix1 (a b c : D) : L2.atI [a, b, c] 1 = some b := rfl
theorem ix2 (a b c : D) : L2.atI [a, b, c] 2 = some c := rfl
/-- the filter of the figures -/
theorem filt_fg (l : List Nat) (p : Nat → Bool) (c : D → Bool) (hc : ∀ d ∈ l, c (.str (fg d)) = p d) : ((l.map fun d => D.str (fg d)).filter c).map (fun x => x) = (l.filter p).map fun d => D.str (fg d) := by
  induction l with
  | nil => rfl
  | cons a l ih =>
    have h1 := hc a (List.mem_cons_self ..)
    have h2 := ih fun d hd => hc d (List.mem_cons_of_mem _ hd)
    rw [List.map_cons]
    by_cases hp : p a = true
    · rw [List.filter_cons_of_pos (by rw [h1]; exact hp), List.filter_cons_of_pos hp, List.map_cons, List.map_cons, h2]
    · rw [List.filter_cons_of_neg (by rw [h1]; exact hp), List.filter_cons_of_neg hp, h2]
/-- the number of a figure -/
def D.fig : D → Nat
  | .str z => (z.cps.toList.headD 0) - 48
  | _ => 0
theorem fig_fg (d : Nat) : (D.str (fg d)).fig = d := by simp [D.fig, fg]
theorem kp_rounds_before : Keeps S_rounds_before 3 t_rounds_before := by
  rintro ds M Q R ⟨h, day, ok, rfl, q⟩
  have hw := ok.aw.len
  simp only [t_rounds_before, dVar, dC, dOp, dUn, dTst, dAnd, dOr, dNot, dAndV, dOrV, dNotV, dIfE, dNil, dCons, dTup, dLst, dNew, dCall, dB, dChain, dNext, dSeq, dDrop, dRet, dRetN, dIf, dAsg, gN, gSeq, gT, dPar2, dPar3, dAug, dRaise, dFor, dYes, dLc, dels, del, put, nth, startN, dFrz, dIx, dPart, dNoP, dSl, dApp, dPut, dM1, dFmt, dJs, dJoined, dIsi, dRg1, dRg2, dLsI, dTpI, dStI, dZip, dEnL, dLsRg1, dLsRg2, dNewK, dNewT, dOneT, dSetSort, dLsZip, dNewCan, oAdd, oSub, oMul, oDiv, oMod, oPow, oLt, oLe, oGt, oGe, oIs, oIsNot, oNeg, oIAdd, D.isN, bLen, bInt, bStr, bAbs, bBool, bList, bTuple, D.ty, D.isInt, D.isBool, D.isStr, D.isTup, D.isLst, List.map_cons, List.map_nil, List.length_cons, List.length_nil, List.replicate_succ, List.replicate_zero, List.cons_append, List.nil_append, Option.isSome_some, if_true, if_false, Bool.false_eq_true, reduceIte, Nat.reduceAdd, Nat.reduceSub, Bool.not_true, Bool.not_false, true_and, and_true, Hs.d]
  refine ⟨⟨by decide, by decide⟩, _, _, rfl, ix0 .., ?_⟩
  refine ⟨by rw [wk_length]; omega, ⟨.inr (small_of (by rw [wk_length]; omega) (by rw [wk_length]; omega)), _, _, rfl, ix0 .., _, rfl, by rw [wk_ch, List.length_map]; omega, ?_⟩⟩
  rw [wk_ch]
  refine lc_pure (fun x => decide (x.fig < md7 day)) (fun x => x) _ _ (fun x hx k1 k2 h1 h2 => ?_) ?_
  · obtain ⟨d, hd, rfl⟩ := List.mem_map.mp hx
    simp only [dVar, dC, dOp, dUn, dTst, dAnd, dOr, dNot, dAndV, dOrV, dNotV, dIfE, dNil, dCons, dTup, dLst, dNew, dCall, dB, dChain, dNext, dSeq, dDrop, dRet, dRetN, dIf, dAsg, gN, gSeq, gT, dPar2, dPar3, dAug, dRaise, dFor, dYes, dLc, dels, del, put, nth, startN, dFrz, dIx, dPart, dNoP, dSl, dApp, dPut, dM1, dFmt, dJs, dJoined, dIsi, dRg1, dRg2, dLsI, dTpI, dStI, dZip, dEnL, dLsRg1, dLsRg2, dNewK, dNewT, dOneT, dSetSort, dLsZip, dNewCan, oAdd, oSub, oMul, oDiv, oMod, oPow, oLt, oLe, oGt, oGe, oIs, oIsNot, oNeg, oIAdd, D.isN, bLen, bInt, bStr, bAbs, bBool, bList, bTuple, D.ty, D.isInt, D.isBool, D.isStr, D.isTup, D.isLst, List.map_cons, List.map_nil, List.length_cons, List.length_nil, List.replicate_succ, List.replicate_zero, List.cons_append, List.nil_append, Option.isSome_some, if_true, if_false, Bool.false_eq_true, reduceIte, Nat.reduceAdd, Nat.reduceSub, Bool.not_true, Bool.not_false, true_and, and_true]
    refine ⟨day, rfl, ?_⟩
    dsimp only
    rw [lt_fg]
    rw [fig_fg] at h1 h2
    by_cases hl : d < md7 day
    · rw [decide_eq_true hl] at h1 ⊢; exact h1 rfl
    · rw [decide_eq_false hl] at h2 ⊢; exact h2 rfl
  · rw [List.nil_append, filt_fg _ (fun d => decide (d < md7 day)) _ (fun d _ => by rw [fig_fg])]
    dsimp only
    rw [List.length_map, wk_length]
    exact fg_self q
/-- the day of a round -/
def dayBy (h : Hs) (n : Int) : Int := n / h.work.length * 7 + (h.work.getD (n % h.work.length).toNat 0 : Nat)
def S_day_by : DSp := fun ds M Q R => ∃ (h : Hs) (n : Int), h.Ok ∧ ds = [h.d, .int n] ∧ Q (.int (dayBy h n)) M
def t_day_by : DTS := dSeq (dAsg (dOp dIx (dVar 0) (dC (.int 0))) (gN 2)) (dRet (dOp oAdd (dOp oMul (dOp oDiv (dVar 1) (dB bLen (dCons (dVar 2) (dNil)))) (dC (.int 7))) (dB bInt (dCons (dOp dIx (dVar 2) (dOp oMod (dVar 1) (dB bLen (dCons (dVar 2) (dNil))))) (dNil)))))
theorem int_fg {d : Nat} (h : d < 7) : PySem.intText? (fg d) = some (d : Int) := by
  have e : d = 0 ∨ d = 1 ∨ d = 2 ∨ d = 3 ∨ d = 4 ∨ d = 5 ∨ d = 6 := by omega
  rcases e with e | e | e | e | e | e | e <;> (subst e; decide +kernel)
theorem kp_day_by : Keeps S_day_by 3 t_day_by := by
  rintro ds M Q R ⟨h, n, ok, rfl, q⟩
  have hw := ok.aw.len
  have h0 : 0 < h.work.length := List.length_pos_iff.mpr ok.w0
  have hm : (n % h.work.length).toNat < h.work.length := by
    have := Int.emod_lt_of_pos n (show (0 : Int) < h.work.length by omega)
    have := Int.emod_nonneg n (show (h.work.length : Int) ≠ 0 by omega)
    omega
  have hc : (((n % h.work.length).toNat : Nat) : Int) = n % h.work.length := by
    have := Int.emod_nonneg n (show (h.work.length : Int) ≠ 0 by omega)
    omega
  have hg : h.work[(n % h.work.length).toNat]? = some (h.work.getD (n % h.work.length).toNat 0) := by
    rw [List.getD_eq_getElem?_getD, List.getElem?_eq_getElem hm]; rfl
  have hd : h.work.getD (n % h.work.length).toNat 0 < 7 := ok.aw.2 _ (List.mem_of_getElem? hg)
  simp only [t_day_by, dVar, dC, dOp, dUn, dTst, dAnd, dOr, dNot, dAndV, dOrV, dNotV, dIfE, dNil, dCons, dTup, dLst, dNew, dCall, dB, dChain, dNext, dSeq, dDrop, dRet, dRetN, dIf, dAsg, gN, gSeq, gT, dPar2, dPar3, dAug, dRaise, dFor, dYes, dLc, dels, del, put, nth, startN, dFrz, dIx, dPart, dNoP, dSl, dApp, dPut, dM1, dFmt, dJs, dJoined, dIsi, dRg1, dRg2, dLsI, dTpI, dStI, dZip, dEnL, dLsRg1, dLsRg2, dNewK, dNewT, dOneT, dSetSort, dLsZip, dNewCan, oAdd, oSub, oMul, oDiv, oMod, oPow, oLt, oLe, oGt, oGe, oIs, oIsNot, oNeg, oIAdd, D.isN, bLen, bInt, bStr, bAbs, bBool, bList, bTuple, D.ty, D.isInt, D.isBool, D.isStr, D.isTup, D.isLst, List.map_cons, List.map_nil, List.length_cons, List.length_nil, List.replicate_succ, List.replicate_zero, List.cons_append, List.nil_append, Option.isSome_some, if_true, if_false, Bool.false_eq_true, reduceIte, Nat.reduceAdd, Nat.reduceSub, Bool.not_true, Bool.not_false, true_and, and_true, Hs.d]
  refine ⟨_, _, rfl, ix0 .., ?_⟩
  refine ⟨by rw [wk_length]; omega, ⟨by rw [wk_length]; omega, by rw [wk_length]; omega⟩, .inr (small_of (by omega) (by omega)), by rw [wk_length]; omega, by rw [wk_length]; omega, _, 48 + h.work.getD (n % h.work.length).toNat 0, by rw [wk_length]; omega, rfl, ?_, ?_⟩
  · rw [wk_length, ← hc]; exact at_wk hg
  · refine ⟨_, int_fg hd, (by show 1 ≤ 640; decide), ?_⟩
    rw [wk_length]; exact fg_self q
/-- how many rounds begin to wait -/
def bo (h : Hs) (day : Int) : Int := if md7 day ∈ h.work then 1 else 0
def S_begins_on : DSp := fun ds M Q R => ∃ (h : Hs) (day : Int), h.Ok ∧ ds = [h.d, .int day] ∧ Q (.int (bo h day)) M
def t_begins_on : DTS := dRet (dB bInt (dCons (dOp (qIn false) (dCall S_figure_of (dCons (dVar 1) (dNil))) (dOp dIx (dVar 0) (dC (.int 0)))) (dNil)))
theorem kp_begins_on : Keeps S_begins_on 2 t_begins_on := by
  rintro ds M Q R ⟨h, day, ok, rfl, q⟩
  simp only [t_begins_on, dVar, dC, dOp, dUn, dTst, dAnd, dOr, dNot, dAndV, dOrV, dNotV, dIfE, dNil, dCons, dTup, dLst, dNew, dCall, dB, dChain, dNext, dSeq, dDrop, dRet, dRetN, dIf, dAsg, gN, gSeq, gT, dPar2, dPar3, dAug, dRaise, dFor, dYes, dLc, dels, del, put, nth, startN, dFrz, dIx, dPart, dNoP, dSl, dApp, dPut, dM1, dFmt, dJs, dJoined, dIsi, dRg1, dRg2, dLsI, dTpI, dStI, dZip, dEnL, dLsRg1, dLsRg2, dNewK, dNewT, dOneT, dSetSort, dLsZip, dNewCan, oAdd, oSub, oMul, oDiv, oMod, oPow, oLt, oLe, oGt, oGe, oIs, oIsNot, oNeg, oIAdd, D.isN, bLen, bInt, bStr, bAbs, bBool, bList, bTuple, D.ty, D.isInt, D.isBool, D.isStr, D.isTup, D.isLst, List.map_cons, List.map_nil, List.length_cons, List.length_nil, List.replicate_succ, List.replicate_zero, List.cons_append, List.nil_append, Option.isSome_some, if_true, if_false, Bool.false_eq_true, reduceIte, Nat.reduceAdd, Nat.reduceSub, Bool.not_true, Bool.not_false, true_and, and_true, Hs.d]
  refine ⟨day, rfl, _, _, rfl, ix0 .., in_wk _ _ _ _ _ ?_⟩
  dsimp only
  unfold bo at q
  by_cases hm : md7 day ∈ h.work
  · rw [if_pos hm] at q; rw [decide_eq_true hm]; exact fg_self q
  · rw [if_neg hm] at q; rw [decide_eq_false hm]; exact fg_self q
/-- how many can be done -/
def mdn (h : Hs) (day : Int) (hol : Bool) : Int := if md7 day ∈ h.run ∧ hol = false then h.speed else 0
def S_most_done : DSp := fun ds M Q R => ∃ (h : Hs) (day : Int) (hol : Bool), h.Ok ∧ ds = [h.d, .int day, .bl hol] ∧ Q (.int (mdn h day hol)) M
def t_most_done : DTS := dRet (dIfE (dAnd (dTst (dOp (qIn false) (dCall S_figure_of (dCons (dVar 1) (dNil))) (dOp dIx (dVar 0) (dC (.int 1))))) (dNot (dTst (dVar 2)))) (dOp dIx (dVar 0) (dC (.int 2))) (dC (.int 0)))
theorem kp_most_done : Keeps S_most_done 3 t_most_done := by
  rintro ds M Q R ⟨h, day, hol, ok, rfl, q⟩
  simp only [t_most_done, dVar, dC, dOp, dUn, dTst, dAnd, dOr, dNot, dAndV, dOrV, dNotV, dIfE, dNil, dCons, dTup, dLst, dNew, dCall, dB, dChain, dNext, dSeq, dDrop, dRet, dRetN, dIf, dAsg, gN, gSeq, gT, dPar2, dPar3, dAug, dRaise, dFor, dYes, dLc, dels, del, put, nth, startN, dFrz, dIx, dPart, dNoP, dSl, dApp, dPut, dM1, dFmt, dJs, dJoined, dIsi, dRg1, dRg2, dLsI, dTpI, dStI, dZip, dEnL, dLsRg1, dLsRg2, dNewK, dNewT, dOneT, dSetSort, dLsZip, dNewCan, oAdd, oSub, oMul, oDiv, oMod, oPow, oLt, oLe, oGt, oGe, oIs, oIsNot, oNeg, oIAdd, D.isN, bLen, bInt, bStr, bAbs, bBool, bList, bTuple, D.ty, D.isInt, D.isBool, D.isStr, D.isTup, D.isLst, List.map_cons, List.map_nil, List.length_cons, List.length_nil, List.replicate_succ, List.replicate_zero, List.cons_append, List.nil_append, Option.isSome_some, if_true, if_false, Bool.false_eq_true, reduceIte, Nat.reduceAdd, Nat.reduceSub, Bool.not_true, Bool.not_false, true_and, and_true, Hs.d]
  refine ⟨day, rfl, _, _, rfl, ix1 .., in_wk _ _ _ _ _ ?_⟩
  unfold mdn at q
  by_cases hm : md7 day ∈ h.run
  · rw [decide_eq_true hm]
    cases hol with
    | false => rw [if_pos ⟨hm, rfl⟩] at q; exact ⟨_, _, rfl, ix2 .., fg_self q⟩
    | true => rw [if_neg (fun z => Bool.noConfusion z.2)] at q; exact fg_self q
  · rw [decide_eq_false hm]
    rw [if_neg (fun z => hm z.1)] at q
    exact fg_self q
/-- how many wait at the end of a day -/
def wb (h : Hs) (day waits : Int) (hol : Bool) : Int := waits + bo h day - min (waits + bo h day) (mdn h day hol)
def S_waits_behind : DSp := fun ds M Q R => ∃ (h : Hs) (day waits : Int) (hol : Bool), h.Ok ∧ ds = [h.d, .int day, .int waits, .bl hol] ∧ Q (.int (wb h day waits hol)) M
def t_waits_behind : DTS := dSeq (dAsg (dOp oAdd (dVar 2) (dCall S_begins_on (dCons (dVar 0) (dCons (dVar 1) (dNil))))) (gN 4)) (dRet (dOp oSub (dVar 4) (dB bMin (dCons (dVar 4) (dCons (dCall S_most_done (dCons (dVar 0) (dCons (dVar 1) (dCons (dVar 3) (dNil))))) (dNil))))))
theorem min_if (a b : Int) : (if b < a then b else a) = min a b := by
  by_cases h : b < a
  · rw [if_pos h]; omega
  · rw [if_neg h]; omega
theorem max_if (a b : Int) : (if b > a then b else a) = max a b := by
  by_cases h : b > a
  · rw [if_pos h]; omega
  · rw [if_neg h]; omega
theorem kp_waits_behind : Keeps S_waits_behind 5 t_waits_behind := by
  rintro ds M Q R ⟨h, day, waits, hol, ok, rfl, q⟩
  simp only [t_waits_behind, dVar, dC, dOp, dUn, dTst, dAnd, dOr, dNot, dAndV, dOrV, dNotV, dIfE, dNil, dCons, dTup, dLst, dNew, dCall, dB, dChain, dNext, dSeq, dDrop, dRet, dRetN, dIf, dAsg, gN, gSeq, gT, dPar2, dPar3, dAug, dRaise, dFor, dYes, dLc, dels, del, put, nth, startN, dFrz, dIx, dPart, dNoP, dSl, dApp, dPut, dM1, dFmt, dJs, dJoined, dIsi, dRg1, dRg2, dLsI, dTpI, dStI, dZip, dEnL, dLsRg1, dLsRg2, dNewK, dNewT, dOneT, dSetSort, dLsZip, dNewCan, oAdd, oSub, oMul, oDiv, oMod, oPow, oLt, oLe, oGt, oGe, oIs, oIsNot, oNeg, oIAdd, D.isN, bLen, bInt, bStr, bAbs, bBool, bList, bTuple, D.ty, D.isInt, D.isBool, D.isStr, D.isTup, D.isLst, List.map_cons, List.map_nil, List.length_cons, List.length_nil, List.replicate_succ, List.replicate_zero, List.cons_append, List.nil_append, Option.isSome_some, if_true, if_false, Bool.false_eq_true, reduceIte, Nat.reduceAdd, Nat.reduceSub, Bool.not_true, Bool.not_false, true_and, and_true]
  refine ⟨h, day, ok, rfl, ⟨h, day, hol, ok, rfl, ?_⟩⟩
  simp only [bMin]
  rw [min_if]
  exact fg_self q
/-! ### what a value is -/
def D.inB (lo hi : Int) : D → Bool
  | .int i => decide (lo ≤ i) && decide (i ≤ hi)
  | _ => false
def S_is_integer : DSp := fun ds M Q R => ∃ (x : D) (lo hi : Int), x.ty.isSome = true ∧ ds = [x, .int lo, .int hi] ∧ Q (.bl (x.inB lo hi)) M
def t_is_integer : DTS := dRet (dAndV (dIsi D.isInt (dVar 0)) (dAndV (dNotV (dIsi D.isBool (dVar 0))) (dChain oLe oLe (dVar 1) (dVar 0) (dVar 2))))
theorem kp_is_integer : Keeps S_is_integer 3 t_is_integer := by
  rintro ds M Q R ⟨x, lo, hi, ht, rfl, q⟩
  cases x <;> simp only [t_is_integer, dVar, dC, dOp, dUn, dTst, dAnd, dOr, dNot, dAndV, dOrV, dNotV, dIfE, dNil, dCons, dTup, dLst, dNew, dCall, dB, dChain, dNext, dSeq, dDrop, dRet, dRetN, dIf, dAsg, gN, gSeq, gT, dPar2, dPar3, dAug, dRaise, dFor, dYes, dLc, dels, del, put, nth, startN, dFrz, dIx, dPart, dNoP, dSl, dApp, dPut, dM1, dFmt, dJs, dJoined, dIsi, dRg1, dRg2, dLsI, dTpI, dStI, dZip, dEnL, dLsRg1, dLsRg2, dNewK, dNewT, dOneT, dSetSort, dLsZip, dNewCan, oAdd, oSub, oMul, oDiv, oMod, oPow, oLt, oLe, oGt, oGe, oIs, oIsNot, oNeg, oIAdd, D.isN, bLen, bInt, bStr, bAbs, bBool, bList, bTuple, D.ty, D.isInt, D.isBool, D.isStr, D.isTup, D.isLst, List.map_cons, List.map_nil, List.length_cons, List.length_nil, List.replicate_succ, List.replicate_zero, List.cons_append, List.nil_append, Option.isSome_some, if_true, if_false, Bool.false_eq_true, reduceIte, Nat.reduceAdd, Nat.reduceSub, Bool.not_true, Bool.not_false, true_and, and_true, D.inB] at ht q ⊢
  all_goals first | exact fg_self q | (exact absurd ht (by decide)) | skip
  rename_i i
  by_cases h1 : lo ≤ i
  · rw [decide_eq_true h1] at q ⊢; rw [Bool.true_and] at q; rw [if_pos rfl]; exact fg_self q
  · rw [decide_eq_false h1] at q ⊢; rw [Bool.false_and] at q; rw [if_neg Bool.false_ne_true]; exact fg_self q
end Dl
namespace Dl
open PySem
/-! # what a value is -/
/-- each one below the next -/
def ascB : List Nat → Bool
  | a :: b :: l => decide (a < b) && ascB (b :: l)
  | _ => true
def figs : List Nat := ("0123456" : Str).cps.toList
def wkZ (z : Str) : Bool := z.cps.toList.all (fun c => decide (c ∈ figs)) && ascB z.cps.toList
def D.wkB : D → Bool
  | .str z => wkZ z
  | _ => false
/-- a value of the kinds that occur, no long text -/
def D.fine (x : D) : Prop := x.ty.isSome = true ∧ ∀ z, x = .str z → z.length ≤ 100000
def S_are_weekdays : DSp := fun ds M Q R => ∃ x : D, x.fine ∧ ds = [x] ∧ Q (.bl x.wkB) M
def t_are_weekdays : DTS := dSeq (dIf (dOr (dNot (dTst (dIsi D.isStr (dVar 0)))) (dNot (dTst (dB bAll (dCons (dLc [1] (dStI (dVar 0)) (gN 1) (dYes) (dOp (qIn false) (dVar 1) (dC (.str ("0123456" : Str))))) (dNil)))))) (dRet (dC (.bl false))) (dNext)) (dRet (dB bAll (dCons (dLc [2, 3] (dZip (dVar 0) (dSl (dVar 0) (dPart (dC (.int 1))) (dNoP))) (gT [gN 2, gN 3]) (dYes) (dOp oLt (dVar 2) (dVar 3))) (dNil))))
theorem str_in (c : Nat) (z : Str) (M : Mem) (Q : DQ) (n : Bool) (q : Q (.bl (xor n (decide (c ∈ z.cps.toList)))) M) : qIn n (.str ⟨#[c]⟩) (.str z) M Q := ⟨c, rfl, q⟩
theorem xorf (b : Bool) : xor false b = b := by cases b <;> rfl
theorem xort (b : Bool) : xor true b = !b := by cases b <;> rfl
theorem lt_one (a b : Nat) : decide ((⟨#[a]⟩ : Str).cps.toList < (⟨#[b]⟩ : Str).cps.toList) = decide (a < b) := by
  apply decide_eq_decide.mpr
  simp [List.cons_lt_cons_iff]
/-- the only sign of a text, else 0 -/
def D.sg : D → Nat
  | .str z => z.cps.toList.headD 0
  | _ => 0
theorem sg_one (c : Nat) : (D.str ⟨#[c]⟩).sg = c := by simp [D.sg]
def D.pr : D → D × D
  | .tup [a, b] => (a, b)
  | _ => (.non, .non)
theorem zip_asc : ∀ l : List Nat, ((zipD (l.map fun c => D.str ⟨#[c]⟩) ((l.drop 1).map fun c => D.str ⟨#[c]⟩)).map fun x => decide (x.pr.1.sg < x.pr.2.sg)).all id = ascB l
  | [] => by simp [zipD, ascB]
  | [a] => by simp [zipD, ascB]
  | a :: b :: l => by
    have := zip_asc (b :: l)
    simp only [List.drop_succ_cons, List.drop_zero, List.map_cons, zipD, List.all_cons, ascB, id] at this ⊢
    rw [this]; simp only [D.pr, sg_one]
theorem mem_zip : ∀ {xs ys : List D} {d : D}, d ∈ zipD xs ys → ∃ x y, x ∈ xs ∧ y ∈ ys ∧ d = .tup [x, y]
  | [], _, _, h => by simp [zipD] at h
  | _ :: _, [], _, h => by simp [zipD] at h
  | x :: xs, y :: ys, d, h => by
    simp only [zipD, List.mem_cons] at h
    rcases h with rfl | h
    · exact ⟨x, y, List.mem_cons_self .., List.mem_cons_self .., rfl⟩
    · obtain ⟨a, b, h1, h2, h3⟩ := mem_zip h
      exact ⟨a, b, List.mem_cons_of_mem _ h1, List.mem_cons_of_mem _ h2, h3⟩
theorem cut1 (z : Str) : chD (L2.cutS z (some 1) none) = (z.cps.toList.drop 1).map fun c => D.str ⟨#[c]⟩ := by
  unfold L2.cutS chD
  by_cases h : z.length = 0
  · have e : z.cps.toList = [] := by
      have : z.cps.toList.length = 0 := by simpa [Str.length] using h
      exact List.eq_nil_of_length_eq_zero this
    rw [e]; simp
  · have e1 : HT.sIx z.length 0 (some 1) = 1 := by unfold HT.sIx; simp; omega
    have e2 : HT.sIx z.length z.length none = z.length := rfl
    rw [e1, e2]
    have : z.length = z.cps.toList.length := by simp [Str.length]
    rw [this, List.take_of_length_le (by rw [List.length_drop]; omega)]
theorem kp_are_weekdays : Keeps S_are_weekdays 4 t_are_weekdays := by
  rintro ds M Q R ⟨x, ⟨ht, hl⟩, rfl, q⟩
  cases x with
  | str z =>
    have hz := hl z rfl
    have hlen : (chD z).length ≤ 100000 := by simpa [chD, Str.length] using hz
    simp only [t_are_weekdays, dVar, dC, dOp, dUn, dTst, dAnd, dOr, dNot, dAndV, dOrV, dNotV, dIfE, dNil, dCons, dTup, dLst, dNew, dCall, dB, dChain, dNext, dSeq, dDrop, dRet, dRetN, dIf, dAsg, gN, gSeq, gT, dPar2, dPar3, dAug, dRaise, dFor, dYes, dLc, dels, del, put, nth, startN, dFrz, dIx, dPart, dNoP, dSl, dApp, dPut, dM1, dFmt, dJs, dJoined, dIsi, dRg1, dRg2, dLsI, dTpI, dStI, dZip, dEnL, dLsRg1, dLsRg2, dNewK, dNewT, dOneT, dSetSort, dLsZip, dNewCan, oAdd, oSub, oMul, oDiv, oMod, oPow, oLt, oLe, oGt, oGe, oIs, oIsNot, oNeg, oIAdd, D.isN, bLen, bInt, bStr, bAbs, bBool, bList, bTuple, D.ty, D.isInt, D.isBool, D.isStr, D.isTup, D.isLst, List.map_cons, List.map_nil, List.length_cons, List.length_nil, List.replicate_succ, List.replicate_zero, List.cons_append, List.nil_append, Option.isSome_some, if_true, if_false, Bool.false_eq_true, reduceIte, Nat.reduceAdd, Nat.reduceSub, Bool.not_true, Bool.not_false, true_and, and_true]
    refine ⟨z, rfl, hlen, lc_map (fun d => .bl (decide (d.sg ∈ figs))) _ (fun d hd k hk => ?_) ?_⟩
    · obtain ⟨c, hc, rfl⟩ := List.mem_map.mp hd
      simp only [dVar, dC, dOp, dUn, dTst, dAnd, dOr, dNot, dAndV, dOrV, dNotV, dIfE, dNil, dCons, dTup, dLst, dNew, dCall, dB, dChain, dNext, dSeq, dDrop, dRet, dRetN, dIf, dAsg, gN, gSeq, gT, dPar2, dPar3, dAug, dRaise, dFor, dYes, dLc, dels, del, put, nth, startN, dFrz, dIx, dPart, dNoP, dSl, dApp, dPut, dM1, dFmt, dJs, dJoined, dIsi, dRg1, dRg2, dLsI, dTpI, dStI, dZip, dEnL, dLsRg1, dLsRg2, dNewK, dNewT, dOneT, dSetSort, dLsZip, dNewCan, oAdd, oSub, oMul, oDiv, oMod, oPow, oLt, oLe, oGt, oGe, oIs, oIsNot, oNeg, oIAdd, D.isN, bLen, bInt, bStr, bAbs, bBool, bList, bTuple, D.ty, D.isInt, D.isBool, D.isStr, D.isTup, D.isLst, List.map_cons, List.map_nil, List.length_cons, List.length_nil, List.replicate_succ, List.replicate_zero, List.cons_append, List.nil_append, Option.isSome_some, if_true, if_false, Bool.false_eq_true, reduceIte, Nat.reduceAdd, Nat.reduceSub, Bool.not_true, Bool.not_false, true_and, and_true]
      refine str_in c _ _ _ _ ?_
      rw [xorf]; rw [sg_one] at hk; exact hk
    · simp only [bAll]
      refine ⟨(chD z).map fun d => decide (d.sg ∈ figs), by rw [List.map_map]; rfl, ?_⟩
      have e : ((chD z).map fun d => decide (d.sg ∈ figs)).all id = z.cps.toList.all (fun c => decide (c ∈ figs)) := by
        unfold chD; rw [List.map_map, List.all_map]; simp only [Function.comp_def, sg_one, id]
      rw [e]
      have q0 : Q (.bl ((z.cps.toList.all fun c => decide (c ∈ figs)) && ascB z.cps.toList)) M := q
      clear q; have q := q0; clear q0
      by_cases ha : z.cps.toList.all (fun c => decide (c ∈ figs)) = true
      · rw [ha] at q ⊢
        rw [Bool.true_and] at q
        simp only [dVar, dC, dOp, dUn, dTst, dAnd, dOr, dNot, dAndV, dOrV, dNotV, dIfE, dNil, dCons, dTup, dLst, dNew, dCall, dB, dChain, dNext, dSeq, dDrop, dRet, dRetN, dIf, dAsg, gN, gSeq, gT, dPar2, dPar3, dAug, dRaise, dFor, dYes, dLc, dels, del, put, nth, startN, dFrz, dIx, dPart, dNoP, dSl, dApp, dPut, dM1, dFmt, dJs, dJoined, dIsi, dRg1, dRg2, dLsI, dTpI, dStI, dZip, dEnL, dLsRg1, dLsRg2, dNewK, dNewT, dOneT, dSetSort, dLsZip, dNewCan, oAdd, oSub, oMul, oDiv, oMod, oPow, oLt, oLe, oGt, oGe, oIs, oIsNot, oNeg, oIAdd, D.isN, bLen, bInt, bStr, bAbs, bBool, bList, bTuple, D.ty, D.isInt, D.isBool, D.isStr, D.isTup, D.isLst, List.map_cons, List.map_nil, List.length_cons, List.length_nil, List.replicate_succ, List.replicate_zero, List.cons_append, List.nil_append, Option.isSome_some, if_true, if_false, Bool.false_eq_true, reduceIte, Nat.reduceAdd, Nat.reduceSub, Bool.not_true, Bool.not_false, true_and, and_true]
        refine ⟨hz, _, _, rfl, rfl, ?_⟩
        rw [cut1]
        have hlen2 : (zipD (chD z) ((z.cps.toList.drop 1).map fun c => D.str ⟨#[c]⟩)).length ≤ 100000 := by rw [zipD_length]; omega
        refine ⟨hlen2, lc_map (fun d => .bl (decide (d.pr.1.sg < d.pr.2.sg))) _ (fun d hd k hk => ?_) ?_⟩
        · obtain ⟨a, b, h1, h2, rfl⟩ := mem_zip hd
          obtain ⟨a, _, rfl⟩ := List.mem_map.mp h1
          obtain ⟨b, _, rfl⟩ := List.mem_map.mp h2
          simp only [dVar, dC, dOp, dUn, dTst, dAnd, dOr, dNot, dAndV, dOrV, dNotV, dIfE, dNil, dCons, dTup, dLst, dNew, dCall, dB, dChain, dNext, dSeq, dDrop, dRet, dRetN, dIf, dAsg, gN, gSeq, gT, dPar2, dPar3, dAug, dRaise, dFor, dYes, dLc, dels, del, put, nth, startN, dFrz, dIx, dPart, dNoP, dSl, dApp, dPut, dM1, dFmt, dJs, dJoined, dIsi, dRg1, dRg2, dLsI, dTpI, dStI, dZip, dEnL, dLsRg1, dLsRg2, dNewK, dNewT, dOneT, dSetSort, dLsZip, dNewCan, oAdd, oSub, oMul, oDiv, oMod, oPow, oLt, oLe, oGt, oGe, oIs, oIsNot, oNeg, oIAdd, D.isN, bLen, bInt, bStr, bAbs, bBool, bList, bTuple, D.ty, D.isInt, D.isBool, D.isStr, D.isTup, D.isLst, List.map_cons, List.map_nil, List.length_cons, List.length_nil, List.replicate_succ, List.replicate_zero, List.cons_append, List.nil_append, Option.isSome_some, if_true, if_false, Bool.false_eq_true, reduceIte, Nat.reduceAdd, Nat.reduceSub, Bool.not_true, Bool.not_false, true_and, and_true]
          rw [lt_one]
          simp only [D.pr, sg_one] at hk
          exact hk
        · simp only [bAll]
          refine ⟨(zipD (chD z) ((z.cps.toList.drop 1).map fun c => D.str ⟨#[c]⟩)).map fun d => decide (d.pr.1.sg < d.pr.2.sg), by rw [List.map_map]; rfl, ?_⟩
          rw [show chD z = z.cps.toList.map fun c => D.str ⟨#[c]⟩ from rfl, zip_asc]
          exact fg_self q
      · have ha' : z.cps.toList.all (fun c => decide (c ∈ figs)) = false := Bool.eq_false_iff.mpr ha
        rw [ha'] at q ⊢
        simp only [dVar, dC, dOp, dUn, dTst, dAnd, dOr, dNot, dAndV, dOrV, dNotV, dIfE, dNil, dCons, dTup, dLst, dNew, dCall, dB, dChain, dNext, dSeq, dDrop, dRet, dRetN, dIf, dAsg, gN, gSeq, gT, dPar2, dPar3, dAug, dRaise, dFor, dYes, dLc, dels, del, put, nth, startN, dFrz, dIx, dPart, dNoP, dSl, dApp, dPut, dM1, dFmt, dJs, dJoined, dIsi, dRg1, dRg2, dLsI, dTpI, dStI, dZip, dEnL, dLsRg1, dLsRg2, dNewK, dNewT, dOneT, dSetSort, dLsZip, dNewCan, oAdd, oSub, oMul, oDiv, oMod, oPow, oLt, oLe, oGt, oGe, oIs, oIsNot, oNeg, oIAdd, D.isN, bLen, bInt, bStr, bAbs, bBool, bList, bTuple, D.ty, D.isInt, D.isBool, D.isStr, D.isTup, D.isLst, List.map_cons, List.map_nil, List.length_cons, List.length_nil, List.replicate_succ, List.replicate_zero, List.cons_append, List.nil_append, Option.isSome_some, if_true, if_false, Bool.false_eq_true, reduceIte, Nat.reduceAdd, Nat.reduceSub, Bool.not_true, Bool.not_false, true_and, and_true]
        exact fg_self q
  | scr _ => cases ht
  | fn _ => cases ht
  | obj _ => cases ht
  | _ => simp only [t_are_weekdays, dVar, dC, dOp, dUn, dTst, dAnd, dOr, dNot, dAndV, dOrV, dNotV, dIfE, dNil, dCons, dTup, dLst, dNew, dCall, dB, dChain, dNext, dSeq, dDrop, dRet, dRetN, dIf, dAsg, gN, gSeq, gT, dPar2, dPar3, dAug, dRaise, dFor, dYes, dLc, dels, del, put, nth, startN, dFrz, dIx, dPart, dNoP, dSl, dApp, dPut, dM1, dFmt, dJs, dJoined, dIsi, dRg1, dRg2, dLsI, dTpI, dStI, dZip, dEnL, dLsRg1, dLsRg2, dNewK, dNewT, dOneT, dSetSort, dLsZip, dNewCan, oAdd, oSub, oMul, oDiv, oMod, oPow, oLt, oLe, oGt, oGe, oIs, oIsNot, oNeg, oIAdd, D.isN, bLen, bInt, bStr, bAbs, bBool, bList, bTuple, D.ty, D.isInt, D.isBool, D.isStr, D.isTup, D.isLst, List.map_cons, List.map_nil, List.length_cons, List.length_nil, List.replicate_succ, List.replicate_zero, List.cons_append, List.nil_append, Option.isSome_some, if_true, if_false, Bool.false_eq_true, reduceIte, Nat.reduceAdd, Nat.reduceSub, Bool.not_true, Bool.not_false, true_and, and_true]; exact fg_self q
/-! ### houses, calendars -/
def D.houseB : D → Bool
  | .tup [.str a, .str b, .int q] => decide (1 ≤ q) && decide (q ≤ 3) && (wkZ a && (wkZ b && (!decide (a.length = 0) && (!decide (b.length = 0) && decide ((a.length : Int) ≤ q * b.length)))))
  | _ => false
def D.fine2 (x : D) : Prop := x.fine ∧ ∀ ds, x = .tup ds → ds.length ≤ 100000 ∧ ∀ d ∈ ds, d.fine
def S_is_house : DSp := fun ds M Q R => ∃ x : D, x.fine2 ∧ ds = [x] ∧ Q (.bl x.houseB) M
def t_is_house : DTS := dSeq (dIf (dOr (dNot (dTst (dIsi D.isTup (dVar 0)))) (dOr (dTst (dOp oNe (dB bLen (dCons (dVar 0) (dNil))) (dC (.int 3)))) (dNot (dTst (dCall S_is_integer (dCons (dOp dIx (dVar 0) (dC (.int 2))) (dCons (dC (.int 1)) (dCons (dC (.int 3)) (dNil))))))))) (dRet (dC (.bl false))) (dNext)) (dSeq (dIf (dOr (dNot (dTst (dCall S_are_weekdays (dCons (dOp dIx (dVar 0) (dC (.int 0))) (dNil))))) (dOr (dNot (dTst (dCall S_are_weekdays (dCons (dOp dIx (dVar 0) (dC (.int 1))) (dNil))))) (dOr (dTst (dOp oEq (dOp dIx (dVar 0) (dC (.int 0))) (dC (.str ("" : Str))))) (dTst (dOp oEq (dOp dIx (dVar 0) (dC (.int 1))) (dC (.str ("" : Str)))))))) (dRet (dC (.bl false))) (dNext)) (dRet (dOp oLe (dB bLen (dCons (dOp dIx (dVar 0) (dC (.int 0))) (dNil))) (dOp oMul (dOp dIx (dVar 0) (dC (.int 2))) (dB bLen (dCons (dOp dIx (dVar 0) (dC (.int 1))) (dNil)))))))
theorem ok_int (i : Int) : (D.int i).ok := rfl
theorem eqv_int (i j : Int) : (D.int i).eqv (.int j) = decide (i = j) := by
  simp only [D.eqv, D.py, PyData.eqv]; rfl
theorem wkZ_ok {z : Str} (h : wkZ z = true) : (D.str z).ok := by
  unfold D.ok SeqAt.shaped
  simp only [D.py, PyData.canLay0, PyData.depth, PyData.strOk]
  unfold wkZ at h
  rw [Bool.and_eq_true] at h
  have h1 := h.1
  rw [List.all_eq_true] at h1
  simp only [Nat.zero_le, decide_true, Bool.and_true, Array.all_eq_true_iff_forall_mem]
  intro c hc
  have hm := h1 c (by simpa using hc)
  have := of_decide_eq_true hm
  have e : figs = [48, 49, 50, 51, 52, 53, 54] := by decide
  rw [e] at this
  simp only [List.mem_cons, List.not_mem_nil, or_false] at this
  exact decide_eq_true (by omega)
theorem eqv_empty (z : Str) : (D.str z).eqv (.str ("" : Str)) = decide (z.length = 0) := by
  simp only [D.eqv, D.py, PyData.eqv]
  by_cases h : z.length = 0
  · rw [decide_eq_true h]
    have e : z = ("" : Str) := by
      cases z with
      | mk c =>
        have : c.size = 0 := h
        have : c = #[] := Array.eq_empty_of_size_eq_zero this
        rw [this]; rfl
    rw [e]; rfl
  · rw [decide_eq_false h]
    apply beq_eq_false_iff_ne.mpr
    intro e
    rw [e] at h
    exact h rfl
theorem ok_empty : (D.str ("" : Str)).ok := by unfold D.ok; simp only [D.py]; decide +kernel
theorem wkB_str {x : D} (h : x.wkB = true) : ∃ z, x = .str z ∧ wkZ z = true := by
  cases x <;> first | exact ⟨_, rfl, h⟩ | cases h
theorem inB_int {x : D} {lo hi : Int} (h : x.inB lo hi = true) : ∃ i, x = .int i ∧ lo ≤ i ∧ i ≤ hi := by
  cases x <;> first | cases h | skip
  simp only [D.inB, Bool.and_eq_true, decide_eq_true_eq] at h
  exact ⟨_, rfl, h.1, h.2⟩
theorem houseB_no1 {ds : List D} (h : ∀ a b c, ds ≠ [a, b, c]) : (D.tup ds).houseB = false := by
  unfold D.houseB
  split
  · rename_i a b q e; exact absurd (D.tup.inj e) (h _ _ _)
  · rfl
theorem houseB_3 (a b c : D) : (D.tup [a, b, c]).houseB = true → c.inB 1 3 = true ∧ a.wkB = true ∧ b.wkB = true := by
  intro h
  unfold D.houseB at h
  split at h
  · rename_i x y q e
    cases D.tup.inj e
    simp only [Bool.and_eq_true, decide_eq_true_eq] at h
    exact ⟨by simp only [D.inB, Bool.and_eq_true, decide_eq_true_eq]; exact ⟨h.1.1, h.1.2⟩, h.2.1, h.2.2.1⟩
  · cases h
theorem kp_is_house : Keeps S_is_house 1 t_is_house := by
  rintro ds M Q R ⟨x, ⟨⟨ht, hl⟩, hf⟩, rfl, q⟩
  cases x with
  | tup ds =>
    obtain ⟨hlen, hf⟩ := hf ds rfl
    simp only [t_is_house, dVar, dC, dOp, dUn, dTst, dAnd, dOr, dNot, dAndV, dOrV, dNotV, dIfE, dNil, dCons, dTup, dLst, dNew, dCall, dB, dChain, dNext, dSeq, dDrop, dRet, dRetN, dIf, dAsg, gN, gSeq, gT, dPar2, dPar3, dAug, dRaise, dFor, dYes, dLc, dels, del, put, nth, startN, dFrz, dIx, dPart, dNoP, dSl, dApp, dPut, dM1, dFmt, dJs, dJoined, dIsi, dRg1, dRg2, dLsI, dTpI, dStI, dZip, dEnL, dLsRg1, dLsRg2, dNewK, dNewT, dOneT, dSetSort, dLsZip, dNewCan, oAdd, oSub, oMul, oDiv, oMod, oPow, oLt, oLe, oGt, oGe, oIs, oIsNot, oNeg, oIAdd, D.isN, bLen, bInt, bStr, bAbs, bBool, bList, bTuple, D.ty, D.isInt, D.isBool, D.isStr, D.isTup, D.isLst, List.map_cons, List.map_nil, List.length_cons, List.length_nil, List.replicate_succ, List.replicate_zero, List.cons_append, List.nil_append, Option.isSome_some, if_true, if_false, Bool.false_eq_true, reduceIte, Nat.reduceAdd, Nat.reduceSub, Bool.not_true, Bool.not_false, true_and, and_true]
    refine ⟨ok_int _, ok_int _, ?_⟩
    rw [eqv_int]
    by_cases h3 : ds.length = 3
    · match ds, h3 with
      | [a, b, c], _ =>
      have fa := hf a (by simp)
      have fb := hf b (by simp)
      have fc := hf c (by simp)
      simp only [List.length_cons, List.length_nil, Nat.reduceAdd, Int.cast_ofNat_Int, decide_true, Bool.not_true, dVar, dC, dOp, dUn, dTst, dAnd, dOr, dNot, dAndV, dOrV, dNotV, dIfE, dNil, dCons, dTup, dLst, dNew, dCall, dB, dChain, dNext, dSeq, dDrop, dRet, dRetN, dIf, dAsg, gN, gSeq, gT, dPar2, dPar3, dAug, dRaise, dFor, dYes, dLc, dels, del, put, nth, startN, dFrz, dIx, dPart, dNoP, dSl, dApp, dPut, dM1, dFmt, dJs, dJoined, dIsi, dRg1, dRg2, dLsI, dTpI, dStI, dZip, dEnL, dLsRg1, dLsRg2, dNewK, dNewT, dOneT, dSetSort, dLsZip, dNewCan, oAdd, oSub, oMul, oDiv, oMod, oPow, oLt, oLe, oGt, oGe, oIs, oIsNot, oNeg, oIAdd, D.isN, bLen, bInt, bStr, bAbs, bBool, bList, bTuple, D.ty, D.isInt, D.isBool, D.isStr, D.isTup, D.isLst, List.map_cons, List.map_nil, List.length_cons, List.length_nil, List.replicate_succ, List.replicate_zero, List.cons_append, List.nil_append, Option.isSome_some, if_true, if_false, Bool.false_eq_true, reduceIte, Nat.reduceAdd, Nat.reduceSub, Bool.not_true, Bool.not_false, true_and, and_true]
      refine ⟨_, _, rfl, ix2 .., c, 1, 3, fc.1, rfl, ?_⟩
      dsimp only
      cases hc : c.inB 1 3 with
      | false =>
        simp only [dVar, dC, dOp, dUn, dTst, dAnd, dOr, dNot, dAndV, dOrV, dNotV, dIfE, dNil, dCons, dTup, dLst, dNew, dCall, dB, dChain, dNext, dSeq, dDrop, dRet, dRetN, dIf, dAsg, gN, gSeq, gT, dPar2, dPar3, dAug, dRaise, dFor, dYes, dLc, dels, del, put, nth, startN, dFrz, dIx, dPart, dNoP, dSl, dApp, dPut, dM1, dFmt, dJs, dJoined, dIsi, dRg1, dRg2, dLsI, dTpI, dStI, dZip, dEnL, dLsRg1, dLsRg2, dNewK, dNewT, dOneT, dSetSort, dLsZip, dNewCan, oAdd, oSub, oMul, oDiv, oMod, oPow, oLt, oLe, oGt, oGe, oIs, oIsNot, oNeg, oIAdd, D.isN, bLen, bInt, bStr, bAbs, bBool, bList, bTuple, D.ty, D.isInt, D.isBool, D.isStr, D.isTup, D.isLst, List.map_cons, List.map_nil, List.length_cons, List.length_nil, List.replicate_succ, List.replicate_zero, List.cons_append, List.nil_append, Option.isSome_some, if_true, if_false, Bool.false_eq_true, reduceIte, Nat.reduceAdd, Nat.reduceSub, Bool.not_true, Bool.not_false, true_and, and_true]
        have e : (D.tup [a, b, c]).houseB = false := Bool.eq_false_iff.mpr fun z => by rw [(houseB_3 a b c z).1] at hc; cases hc
        rw [e] at q; exact fg_self q
      | true =>
        obtain ⟨i, rfl, i1, i2⟩ := inB_int hc
        simp only [dVar, dC, dOp, dUn, dTst, dAnd, dOr, dNot, dAndV, dOrV, dNotV, dIfE, dNil, dCons, dTup, dLst, dNew, dCall, dB, dChain, dNext, dSeq, dDrop, dRet, dRetN, dIf, dAsg, gN, gSeq, gT, dPar2, dPar3, dAug, dRaise, dFor, dYes, dLc, dels, del, put, nth, startN, dFrz, dIx, dPart, dNoP, dSl, dApp, dPut, dM1, dFmt, dJs, dJoined, dIsi, dRg1, dRg2, dLsI, dTpI, dStI, dZip, dEnL, dLsRg1, dLsRg2, dNewK, dNewT, dOneT, dSetSort, dLsZip, dNewCan, oAdd, oSub, oMul, oDiv, oMod, oPow, oLt, oLe, oGt, oGe, oIs, oIsNot, oNeg, oIAdd, D.isN, bLen, bInt, bStr, bAbs, bBool, bList, bTuple, D.ty, D.isInt, D.isBool, D.isStr, D.isTup, D.isLst, List.map_cons, List.map_nil, List.length_cons, List.length_nil, List.replicate_succ, List.replicate_zero, List.cons_append, List.nil_append, Option.isSome_some, if_true, if_false, Bool.false_eq_true, reduceIte, Nat.reduceAdd, Nat.reduceSub, Bool.not_true, Bool.not_false, true_and, and_true]
        refine ⟨_, _, rfl, ix0 .., a, fa, rfl, ?_⟩
        dsimp only
        cases ha : a.wkB with
        | false =>
          simp only [dVar, dC, dOp, dUn, dTst, dAnd, dOr, dNot, dAndV, dOrV, dNotV, dIfE, dNil, dCons, dTup, dLst, dNew, dCall, dB, dChain, dNext, dSeq, dDrop, dRet, dRetN, dIf, dAsg, gN, gSeq, gT, dPar2, dPar3, dAug, dRaise, dFor, dYes, dLc, dels, del, put, nth, startN, dFrz, dIx, dPart, dNoP, dSl, dApp, dPut, dM1, dFmt, dJs, dJoined, dIsi, dRg1, dRg2, dLsI, dTpI, dStI, dZip, dEnL, dLsRg1, dLsRg2, dNewK, dNewT, dOneT, dSetSort, dLsZip, dNewCan, oAdd, oSub, oMul, oDiv, oMod, oPow, oLt, oLe, oGt, oGe, oIs, oIsNot, oNeg, oIAdd, D.isN, bLen, bInt, bStr, bAbs, bBool, bList, bTuple, D.ty, D.isInt, D.isBool, D.isStr, D.isTup, D.isLst, List.map_cons, List.map_nil, List.length_cons, List.length_nil, List.replicate_succ, List.replicate_zero, List.cons_append, List.nil_append, Option.isSome_some, if_true, if_false, Bool.false_eq_true, reduceIte, Nat.reduceAdd, Nat.reduceSub, Bool.not_true, Bool.not_false, true_and, and_true]
          have e : (D.tup [a, b, .int i]).houseB = false := Bool.eq_false_iff.mpr fun z => by rw [(houseB_3 a b _ z).2.1] at ha; cases ha
          rw [e] at q; exact fg_self q
        | true =>
          obtain ⟨za, rfl, wa⟩ := wkB_str ha
          simp only [dVar, dC, dOp, dUn, dTst, dAnd, dOr, dNot, dAndV, dOrV, dNotV, dIfE, dNil, dCons, dTup, dLst, dNew, dCall, dB, dChain, dNext, dSeq, dDrop, dRet, dRetN, dIf, dAsg, gN, gSeq, gT, dPar2, dPar3, dAug, dRaise, dFor, dYes, dLc, dels, del, put, nth, startN, dFrz, dIx, dPart, dNoP, dSl, dApp, dPut, dM1, dFmt, dJs, dJoined, dIsi, dRg1, dRg2, dLsI, dTpI, dStI, dZip, dEnL, dLsRg1, dLsRg2, dNewK, dNewT, dOneT, dSetSort, dLsZip, dNewCan, oAdd, oSub, oMul, oDiv, oMod, oPow, oLt, oLe, oGt, oGe, oIs, oIsNot, oNeg, oIAdd, D.isN, bLen, bInt, bStr, bAbs, bBool, bList, bTuple, D.ty, D.isInt, D.isBool, D.isStr, D.isTup, D.isLst, List.map_cons, List.map_nil, List.length_cons, List.length_nil, List.replicate_succ, List.replicate_zero, List.cons_append, List.nil_append, Option.isSome_some, if_true, if_false, Bool.false_eq_true, reduceIte, Nat.reduceAdd, Nat.reduceSub, Bool.not_true, Bool.not_false, true_and, and_true]
          refine ⟨_, _, rfl, ix1 .., b, fb, rfl, ?_⟩
          dsimp only
          cases hb : b.wkB with
          | false =>
            simp only [dVar, dC, dOp, dUn, dTst, dAnd, dOr, dNot, dAndV, dOrV, dNotV, dIfE, dNil, dCons, dTup, dLst, dNew, dCall, dB, dChain, dNext, dSeq, dDrop, dRet, dRetN, dIf, dAsg, gN, gSeq, gT, dPar2, dPar3, dAug, dRaise, dFor, dYes, dLc, dels, del, put, nth, startN, dFrz, dIx, dPart, dNoP, dSl, dApp, dPut, dM1, dFmt, dJs, dJoined, dIsi, dRg1, dRg2, dLsI, dTpI, dStI, dZip, dEnL, dLsRg1, dLsRg2, dNewK, dNewT, dOneT, dSetSort, dLsZip, dNewCan, oAdd, oSub, oMul, oDiv, oMod, oPow, oLt, oLe, oGt, oGe, oIs, oIsNot, oNeg, oIAdd, D.isN, bLen, bInt, bStr, bAbs, bBool, bList, bTuple, D.ty, D.isInt, D.isBool, D.isStr, D.isTup, D.isLst, List.map_cons, List.map_nil, List.length_cons, List.length_nil, List.replicate_succ, List.replicate_zero, List.cons_append, List.nil_append, Option.isSome_some, if_true, if_false, Bool.false_eq_true, reduceIte, Nat.reduceAdd, Nat.reduceSub, Bool.not_true, Bool.not_false, true_and, and_true]
            have e : (D.tup [.str za, b, .int i]).houseB = false := Bool.eq_false_iff.mpr fun z => by rw [(houseB_3 _ b _ z).2.2] at hb; cases hb
            rw [e] at q; exact fg_self q
          | true =>
            obtain ⟨zb, rfl, wb⟩ := wkB_str hb
            have q' : Q (.bl (!decide (za.length = 0) && (!decide (zb.length = 0) && decide ((za.length : Int) ≤ i * zb.length)))) M := by
              simp only [D.houseB, decide_eq_true i1, decide_eq_true i2, wa, wb, Bool.true_and] at q; exact q
            simp only [dVar, dC, dOp, dUn, dTst, dAnd, dOr, dNot, dAndV, dOrV, dNotV, dIfE, dNil, dCons, dTup, dLst, dNew, dCall, dB, dChain, dNext, dSeq, dDrop, dRet, dRetN, dIf, dAsg, gN, gSeq, gT, dPar2, dPar3, dAug, dRaise, dFor, dYes, dLc, dels, del, put, nth, startN, dFrz, dIx, dPart, dNoP, dSl, dApp, dPut, dM1, dFmt, dJs, dJoined, dIsi, dRg1, dRg2, dLsI, dTpI, dStI, dZip, dEnL, dLsRg1, dLsRg2, dNewK, dNewT, dOneT, dSetSort, dLsZip, dNewCan, oAdd, oSub, oMul, oDiv, oMod, oPow, oLt, oLe, oGt, oGe, oIs, oIsNot, oNeg, oIAdd, D.isN, bLen, bInt, bStr, bAbs, bBool, bList, bTuple, D.ty, D.isInt, D.isBool, D.isStr, D.isTup, D.isLst, List.map_cons, List.map_nil, List.length_cons, List.length_nil, List.replicate_succ, List.replicate_zero, List.cons_append, List.nil_append, Option.isSome_some, if_true, if_false, Bool.false_eq_true, reduceIte, Nat.reduceAdd, Nat.reduceSub, Bool.not_true, Bool.not_false, true_and, and_true]
            refine ⟨_, _, rfl, ix0 .., wkZ_ok wa, ok_empty, ?_⟩
            rw [eqv_empty]
            dsimp only
            by_cases l1 : za.length = 0
            · rw [decide_eq_true l1] at q' ⊢; simp only [dVar, dC, dOp, dUn, dTst, dAnd, dOr, dNot, dAndV, dOrV, dNotV, dIfE, dNil, dCons, dTup, dLst, dNew, dCall, dB, dChain, dNext, dSeq, dDrop, dRet, dRetN, dIf, dAsg, gN, gSeq, gT, dPar2, dPar3, dAug, dRaise, dFor, dYes, dLc, dels, del, put, nth, startN, dFrz, dIx, dPart, dNoP, dSl, dApp, dPut, dM1, dFmt, dJs, dJoined, dIsi, dRg1, dRg2, dLsI, dTpI, dStI, dZip, dEnL, dLsRg1, dLsRg2, dNewK, dNewT, dOneT, dSetSort, dLsZip, dNewCan, oAdd, oSub, oMul, oDiv, oMod, oPow, oLt, oLe, oGt, oGe, oIs, oIsNot, oNeg, oIAdd, D.isN, bLen, bInt, bStr, bAbs, bBool, bList, bTuple, D.ty, D.isInt, D.isBool, D.isStr, D.isTup, D.isLst, List.map_cons, List.map_nil, List.length_cons, List.length_nil, List.replicate_succ, List.replicate_zero, List.cons_append, List.nil_append, Option.isSome_some, if_true, if_false, Bool.false_eq_true, reduceIte, Nat.reduceAdd, Nat.reduceSub, Bool.not_true, Bool.not_false, true_and, and_true]; exact fg_self q'
            · rw [decide_eq_false l1] at q' ⊢
              simp only [dVar, dC, dOp, dUn, dTst, dAnd, dOr, dNot, dAndV, dOrV, dNotV, dIfE, dNil, dCons, dTup, dLst, dNew, dCall, dB, dChain, dNext, dSeq, dDrop, dRet, dRetN, dIf, dAsg, gN, gSeq, gT, dPar2, dPar3, dAug, dRaise, dFor, dYes, dLc, dels, del, put, nth, startN, dFrz, dIx, dPart, dNoP, dSl, dApp, dPut, dM1, dFmt, dJs, dJoined, dIsi, dRg1, dRg2, dLsI, dTpI, dStI, dZip, dEnL, dLsRg1, dLsRg2, dNewK, dNewT, dOneT, dSetSort, dLsZip, dNewCan, oAdd, oSub, oMul, oDiv, oMod, oPow, oLt, oLe, oGt, oGe, oIs, oIsNot, oNeg, oIAdd, D.isN, bLen, bInt, bStr, bAbs, bBool, bList, bTuple, D.ty, D.isInt, D.isBool, D.isStr, D.isTup, D.isLst, List.map_cons, List.map_nil, List.length_cons, List.length_nil, List.replicate_succ, List.replicate_zero, List.cons_append, List.nil_append, Option.isSome_some, if_true, if_false, Bool.false_eq_true, reduceIte, Nat.reduceAdd, Nat.reduceSub, Bool.not_true, Bool.not_false, true_and, and_true]
              refine ⟨_, _, rfl, ix1 .., wkZ_ok wb, ok_empty, ?_⟩
              rw [eqv_empty]
              dsimp only
              by_cases l2 : zb.length = 0
              · rw [decide_eq_true l2] at q' ⊢; simp only [dVar, dC, dOp, dUn, dTst, dAnd, dOr, dNot, dAndV, dOrV, dNotV, dIfE, dNil, dCons, dTup, dLst, dNew, dCall, dB, dChain, dNext, dSeq, dDrop, dRet, dRetN, dIf, dAsg, gN, gSeq, gT, dPar2, dPar3, dAug, dRaise, dFor, dYes, dLc, dels, del, put, nth, startN, dFrz, dIx, dPart, dNoP, dSl, dApp, dPut, dM1, dFmt, dJs, dJoined, dIsi, dRg1, dRg2, dLsI, dTpI, dStI, dZip, dEnL, dLsRg1, dLsRg2, dNewK, dNewT, dOneT, dSetSort, dLsZip, dNewCan, oAdd, oSub, oMul, oDiv, oMod, oPow, oLt, oLe, oGt, oGe, oIs, oIsNot, oNeg, oIAdd, D.isN, bLen, bInt, bStr, bAbs, bBool, bList, bTuple, D.ty, D.isInt, D.isBool, D.isStr, D.isTup, D.isLst, List.map_cons, List.map_nil, List.length_cons, List.length_nil, List.replicate_succ, List.replicate_zero, List.cons_append, List.nil_append, Option.isSome_some, if_true, if_false, Bool.false_eq_true, reduceIte, Nat.reduceAdd, Nat.reduceSub, Bool.not_true, Bool.not_false, true_and, and_true]; exact fg_self q'
              · rw [decide_eq_false l2] at q' ⊢
                simp only [dVar, dC, dOp, dUn, dTst, dAnd, dOr, dNot, dAndV, dOrV, dNotV, dIfE, dNil, dCons, dTup, dLst, dNew, dCall, dB, dChain, dNext, dSeq, dDrop, dRet, dRetN, dIf, dAsg, gN, gSeq, gT, dPar2, dPar3, dAug, dRaise, dFor, dYes, dLc, dels, del, put, nth, startN, dFrz, dIx, dPart, dNoP, dSl, dApp, dPut, dM1, dFmt, dJs, dJoined, dIsi, dRg1, dRg2, dLsI, dTpI, dStI, dZip, dEnL, dLsRg1, dLsRg2, dNewK, dNewT, dOneT, dSetSort, dLsZip, dNewCan, oAdd, oSub, oMul, oDiv, oMod, oPow, oLt, oLe, oGt, oGe, oIs, oIsNot, oNeg, oIAdd, D.isN, bLen, bInt, bStr, bAbs, bBool, bList, bTuple, D.ty, D.isInt, D.isBool, D.isStr, D.isTup, D.isLst, List.map_cons, List.map_nil, List.length_cons, List.length_nil, List.replicate_succ, List.replicate_zero, List.cons_append, List.nil_append, Option.isSome_some, if_true, if_false, Bool.false_eq_true, reduceIte, Nat.reduceAdd, Nat.reduceSub, Bool.not_true, Bool.not_false, true_and, and_true]
                have la := fa.2 _ rfl
                have lb := fb.2 _ rfl
                refine ⟨_, _, rfl, ix0 .., la, _, _, rfl, ix2 .., _, _, rfl, ix1 .., lb, .inl (small_of (by omega) (by omega)), ?_⟩
                simp only [oLe]
                exact fg_self (by simpa using q')
    · have e : (D.tup ds).houseB = false := houseB_no1 fun a b c z => h3 (by rw [z]; rfl)
      rw [e] at q
      rw [decide_eq_false (by omega)]
      simp only [dVar, dC, dOp, dUn, dTst, dAnd, dOr, dNot, dAndV, dOrV, dNotV, dIfE, dNil, dCons, dTup, dLst, dNew, dCall, dB, dChain, dNext, dSeq, dDrop, dRet, dRetN, dIf, dAsg, gN, gSeq, gT, dPar2, dPar3, dAug, dRaise, dFor, dYes, dLc, dels, del, put, nth, startN, dFrz, dIx, dPart, dNoP, dSl, dApp, dPut, dM1, dFmt, dJs, dJoined, dIsi, dRg1, dRg2, dLsI, dTpI, dStI, dZip, dEnL, dLsRg1, dLsRg2, dNewK, dNewT, dOneT, dSetSort, dLsZip, dNewCan, oAdd, oSub, oMul, oDiv, oMod, oPow, oLt, oLe, oGt, oGe, oIs, oIsNot, oNeg, oIAdd, D.isN, bLen, bInt, bStr, bAbs, bBool, bList, bTuple, D.ty, D.isInt, D.isBool, D.isStr, D.isTup, D.isLst, List.map_cons, List.map_nil, List.length_cons, List.length_nil, List.replicate_succ, List.replicate_zero, List.cons_append, List.nil_append, Option.isSome_some, if_true, if_false, Bool.false_eq_true, reduceIte, Nat.reduceAdd, Nat.reduceSub, Bool.not_true, Bool.not_false, true_and, and_true]
      exact fg_self q
  | scr _ => cases ht
  | fn _ => cases ht
  | obj _ => cases ht
  | _ => simp only [t_is_house, dVar, dC, dOp, dUn, dTst, dAnd, dOr, dNot, dAndV, dOrV, dNotV, dIfE, dNil, dCons, dTup, dLst, dNew, dCall, dB, dChain, dNext, dSeq, dDrop, dRet, dRetN, dIf, dAsg, gN, gSeq, gT, dPar2, dPar3, dAug, dRaise, dFor, dYes, dLc, dels, del, put, nth, startN, dFrz, dIx, dPart, dNoP, dSl, dApp, dPut, dM1, dFmt, dJs, dJoined, dIsi, dRg1, dRg2, dLsI, dTpI, dStI, dZip, dEnL, dLsRg1, dLsRg2, dNewK, dNewT, dOneT, dSetSort, dLsZip, dNewCan, oAdd, oSub, oMul, oDiv, oMod, oPow, oLt, oLe, oGt, oGe, oIs, oIsNot, oNeg, oIAdd, D.isN, bLen, bInt, bStr, bAbs, bBool, bList, bTuple, D.ty, D.isInt, D.isBool, D.isStr, D.isTup, D.isLst, List.map_cons, List.map_nil, List.length_cons, List.length_nil, List.replicate_succ, List.replicate_zero, List.cons_append, List.nil_append, Option.isSome_some, if_true, if_false, Bool.false_eq_true, reduceIte, Nat.reduceAdd, Nat.reduceSub, Bool.not_true, Bool.not_false, true_and, and_true]; exact fg_self q
/-- each one below the next -/
def ascI : List Int → Bool
  | a :: b :: l => decide (a < b) && ascI (b :: l)
  | _ => true
def D.ints : List D → Option (List Int)
  | [] => some []
  | .int i :: l => (D.ints l).map (i :: ·)
  | _ => none
abbrev great : Int := 1000000000000000000000000000000
def D.calB : D → Bool
  | .tup ds => decide (ds.length ≤ 20) && match D.ints ds with
    | some ns => ns.all (fun i => decide (0 ≤ i) && decide (i ≤ great)) && ascI ns
    | none => false
  | _ => false
def S_is_calendar : DSp := fun ds M Q R => ∃ x : D, x.fine2 ∧ ds = [x] ∧ Q (.bl x.calB) M
def t_is_calendar : DTS := dSeq (dIf (dOr (dNot (dTst (dIsi D.isTup (dVar 0)))) (dTst (dOp oGt (dB bLen (dCons (dVar 0) (dNil))) (dC (.int 20))))) (dRet (dC (.bl false))) (dNext)) (dSeq (dIf (dNot (dTst (dB bAll (dCons (dLc [1] (dTpI (dVar 0)) (gN 1) (dYes) (dCall S_is_integer (dCons (dVar 1) (dCons (dC (.int 0)) (dCons (dC (.int 1000000000000000000000000000000)) (dNil)))))) (dNil))))) (dRet (dC (.bl false))) (dNext)) (dRet (dB bAll (dCons (dLc [2, 3] (dZip (dVar 0) (dSl (dVar 0) (dPart (dC (.int 1))) (dNoP))) (gT [gN 2, gN 3]) (dYes) (dOp oLt (dVar 2) (dVar 3))) (dNil)))))
theorem ints_map (ns : List Int) : D.ints (ns.map D.int) = some ns := by
  induction ns with
  | nil => rfl
  | cons a l ih => simp [D.ints, ih]
theorem all_inB : ∀ {ds : List D} {lo hi : Int}, (ds.map fun d => d.inB lo hi).all id = true → ∃ ns : List Int, ds = ns.map D.int ∧ ns.all (fun i => decide (lo ≤ i) && decide (i ≤ hi)) = true
  | [], _, _, _ => ⟨[], rfl, rfl⟩
  | d :: ds, lo, hi, h => by
    rw [List.map_cons, List.all_cons, Bool.and_eq_true] at h
    obtain ⟨i, rfl, h1, h2⟩ := inB_int (show d.inB lo hi = true from h.1)
    obtain ⟨ns, rfl, h3⟩ := all_inB h.2
    exact ⟨i :: ns, rfl, by rw [List.all_cons, h3, decide_eq_true h1, decide_eq_true h2]; rfl⟩
theorem ints_all {ns : List Int} {lo hi : Int} : ((ns.map D.int).map fun d => d.inB lo hi).all id = ns.all fun i => decide (lo ≤ i) && decide (i ≤ hi) := by
  rw [List.map_map, List.all_map]; rfl
def D.iv : D → Int
  | .int i => i
  | _ => 0
theorem zip_ascI : ∀ l : List Int, ((zipD (l.map D.int) ((l.map D.int).drop 1)).map fun x => decide (x.pr.1.iv < x.pr.2.iv)).all id = ascI l
  | [] => by simp [zipD, ascI]
  | [a] => by simp [zipD, ascI]
  | a :: b :: l => by
    have := zip_ascI (b :: l)
    simp only [List.drop_succ_cons, List.drop_zero, List.map_cons, zipD, List.all_cons, ascI, id] at this ⊢
    rw [this]; rfl
theorem cutD1 (ds : List D) : cutD ds (some 1) none = ds.drop 1 := by
  unfold cutD
  cases ds with
  | nil => rfl
  | cons a l =>
    have e1 : HT.sIx (a :: l).length 0 (some 1) = 1 := by unfold HT.sIx; simp
    have e2 : HT.sIx (a :: l).length (a :: l).length none = (a :: l).length := rfl
    rw [e1, e2, List.take_of_length_le (by rw [List.length_drop]; omega)]
theorem calB_len {ds : List D} (h : ¬ ds.length ≤ 20) : (D.tup ds).calB = false := by
  simp only [D.calB]; rw [decide_eq_false h]; rfl
theorem ints_some : ∀ {ds : List D} {ns : List Int}, D.ints ds = some ns → ds = ns.map D.int
  | [], _, h => by cases h; rfl
  | d :: ds, ns, h => by
    cases d <;> first | cases h | skip
    rename_i i
    simp only [D.ints] at h
    cases e : D.ints ds with
    | none => rw [e] at h; cases h
    | some l => rw [e] at h; cases h; rw [ints_some e]; rfl
theorem kp_is_calendar : Keeps S_is_calendar 4 t_is_calendar := by
  rintro ds M Q R ⟨x, ⟨⟨ht, hl⟩, hf⟩, rfl, q⟩
  cases x with
  | tup ds =>
    obtain ⟨hlen, hf⟩ := hf ds rfl
    simp only [t_is_calendar, dVar, dC, dOp, dUn, dTst, dAnd, dOr, dNot, dAndV, dOrV, dNotV, dIfE, dNil, dCons, dTup, dLst, dNew, dCall, dB, dChain, dNext, dSeq, dDrop, dRet, dRetN, dIf, dAsg, gN, gSeq, gT, dPar2, dPar3, dAug, dRaise, dFor, dYes, dLc, dels, del, put, nth, startN, dFrz, dIx, dPart, dNoP, dSl, dApp, dPut, dM1, dFmt, dJs, dJoined, dIsi, dRg1, dRg2, dLsI, dTpI, dStI, dZip, dEnL, dLsRg1, dLsRg2, dNewK, dNewT, dOneT, dSetSort, dLsZip, dNewCan, oAdd, oSub, oMul, oDiv, oMod, oPow, oLt, oLe, oGt, oGe, oIs, oIsNot, oNeg, oIAdd, D.isN, bLen, bInt, bStr, bAbs, bBool, bList, bTuple, D.ty, D.isInt, D.isBool, D.isStr, D.isTup, D.isLst, List.map_cons, List.map_nil, List.length_cons, List.length_nil, List.replicate_succ, List.replicate_zero, List.cons_append, List.nil_append, Option.isSome_some, if_true, if_false, Bool.false_eq_true, reduceIte, Nat.reduceAdd, Nat.reduceSub, Bool.not_true, Bool.not_false, true_and, and_true]
    by_cases h20 : ds.length ≤ 20
    · rw [decide_eq_false (by omega)]
      simp only [dVar, dC, dOp, dUn, dTst, dAnd, dOr, dNot, dAndV, dOrV, dNotV, dIfE, dNil, dCons, dTup, dLst, dNew, dCall, dB, dChain, dNext, dSeq, dDrop, dRet, dRetN, dIf, dAsg, gN, gSeq, gT, dPar2, dPar3, dAug, dRaise, dFor, dYes, dLc, dels, del, put, nth, startN, dFrz, dIx, dPart, dNoP, dSl, dApp, dPut, dM1, dFmt, dJs, dJoined, dIsi, dRg1, dRg2, dLsI, dTpI, dStI, dZip, dEnL, dLsRg1, dLsRg2, dNewK, dNewT, dOneT, dSetSort, dLsZip, dNewCan, oAdd, oSub, oMul, oDiv, oMod, oPow, oLt, oLe, oGt, oGe, oIs, oIsNot, oNeg, oIAdd, D.isN, bLen, bInt, bStr, bAbs, bBool, bList, bTuple, D.ty, D.isInt, D.isBool, D.isStr, D.isTup, D.isLst, List.map_cons, List.map_nil, List.length_cons, List.length_nil, List.replicate_succ, List.replicate_zero, List.cons_append, List.nil_append, Option.isSome_some, if_true, if_false, Bool.false_eq_true, reduceIte, Nat.reduceAdd, Nat.reduceSub, Bool.not_true, Bool.not_false, true_and, and_true]
      refine ⟨ds, rfl, hlen, lc_map (fun d => .bl (d.inB 0 great)) _ (fun d hd k hk => ?_) ?_⟩
      · simp only [dVar, dC, dOp, dUn, dTst, dAnd, dOr, dNot, dAndV, dOrV, dNotV, dIfE, dNil, dCons, dTup, dLst, dNew, dCall, dB, dChain, dNext, dSeq, dDrop, dRet, dRetN, dIf, dAsg, gN, gSeq, gT, dPar2, dPar3, dAug, dRaise, dFor, dYes, dLc, dels, del, put, nth, startN, dFrz, dIx, dPart, dNoP, dSl, dApp, dPut, dM1, dFmt, dJs, dJoined, dIsi, dRg1, dRg2, dLsI, dTpI, dStI, dZip, dEnL, dLsRg1, dLsRg2, dNewK, dNewT, dOneT, dSetSort, dLsZip, dNewCan, oAdd, oSub, oMul, oDiv, oMod, oPow, oLt, oLe, oGt, oGe, oIs, oIsNot, oNeg, oIAdd, D.isN, bLen, bInt, bStr, bAbs, bBool, bList, bTuple, D.ty, D.isInt, D.isBool, D.isStr, D.isTup, D.isLst, List.map_cons, List.map_nil, List.length_cons, List.length_nil, List.replicate_succ, List.replicate_zero, List.cons_append, List.nil_append, Option.isSome_some, if_true, if_false, Bool.false_eq_true, reduceIte, Nat.reduceAdd, Nat.reduceSub, Bool.not_true, Bool.not_false, true_and, and_true]
        exact ⟨d, 0, great, (hf d hd).1, rfl, hk⟩
      · simp only [bAll]
        refine ⟨ds.map fun d => d.inB 0 great, by rw [List.map_map]; rfl, ?_⟩
        cases ha : (ds.map fun d => d.inB 0 great).all id with
        | true =>
          obtain ⟨ns, rfl, hn⟩ := all_inB ha
          have q' : Q (.bl (ascI ns)) M := by
            simp only [D.calB, ints_map, hn, decide_eq_true h20, Bool.true_and] at q; exact q
          simp only [dVar, dC, dOp, dUn, dTst, dAnd, dOr, dNot, dAndV, dOrV, dNotV, dIfE, dNil, dCons, dTup, dLst, dNew, dCall, dB, dChain, dNext, dSeq, dDrop, dRet, dRetN, dIf, dAsg, gN, gSeq, gT, dPar2, dPar3, dAug, dRaise, dFor, dYes, dLc, dels, del, put, nth, startN, dFrz, dIx, dPart, dNoP, dSl, dApp, dPut, dM1, dFmt, dJs, dJoined, dIsi, dRg1, dRg2, dLsI, dTpI, dStI, dZip, dEnL, dLsRg1, dLsRg2, dNewK, dNewT, dOneT, dSetSort, dLsZip, dNewCan, oAdd, oSub, oMul, oDiv, oMod, oPow, oLt, oLe, oGt, oGe, oIs, oIsNot, oNeg, oIAdd, D.isN, bLen, bInt, bStr, bAbs, bBool, bList, bTuple, D.ty, D.isInt, D.isBool, D.isStr, D.isTup, D.isLst, List.map_cons, List.map_nil, List.length_cons, List.length_nil, List.replicate_succ, List.replicate_zero, List.cons_append, List.nil_append, Option.isSome_some, if_true, if_false, Bool.false_eq_true, reduceIte, Nat.reduceAdd, Nat.reduceSub, Bool.not_true, Bool.not_false, true_and, and_true]
          refine ⟨_, _, rfl, rfl, by rw [zipD_length]; omega, ?_⟩
          rw [cutD1]
          refine lc_map (fun d => .bl (decide (d.pr.1.iv < d.pr.2.iv))) _ (fun d hd k hk => ?_) ?_
          · obtain ⟨a, b, h1, h2, rfl⟩ := mem_zip hd
            obtain ⟨a, _, rfl⟩ := List.mem_map.mp h1
            obtain ⟨b, _, rfl⟩ := List.mem_map.mp (List.mem_of_mem_drop h2)
            simp only [dVar, dC, dOp, dUn, dTst, dAnd, dOr, dNot, dAndV, dOrV, dNotV, dIfE, dNil, dCons, dTup, dLst, dNew, dCall, dB, dChain, dNext, dSeq, dDrop, dRet, dRetN, dIf, dAsg, gN, gSeq, gT, dPar2, dPar3, dAug, dRaise, dFor, dYes, dLc, dels, del, put, nth, startN, dFrz, dIx, dPart, dNoP, dSl, dApp, dPut, dM1, dFmt, dJs, dJoined, dIsi, dRg1, dRg2, dLsI, dTpI, dStI, dZip, dEnL, dLsRg1, dLsRg2, dNewK, dNewT, dOneT, dSetSort, dLsZip, dNewCan, oAdd, oSub, oMul, oDiv, oMod, oPow, oLt, oLe, oGt, oGe, oIs, oIsNot, oNeg, oIAdd, D.isN, bLen, bInt, bStr, bAbs, bBool, bList, bTuple, D.ty, D.isInt, D.isBool, D.isStr, D.isTup, D.isLst, List.map_cons, List.map_nil, List.length_cons, List.length_nil, List.replicate_succ, List.replicate_zero, List.cons_append, List.nil_append, Option.isSome_some, if_true, if_false, Bool.false_eq_true, reduceIte, Nat.reduceAdd, Nat.reduceSub, Bool.not_true, Bool.not_false, true_and, and_true]
            simp only [D.pr, D.iv] at hk
            exact hk
          · simp only [bAll]
            refine ⟨(zipD (ns.map D.int) ((ns.map D.int).drop 1)).map fun d => decide (d.pr.1.iv < d.pr.2.iv), by rw [List.map_map]; rfl, ?_⟩
            rw [zip_ascI]
            exact fg_self q'
        | false =>
          have e : (D.tup ds).calB = false := by
            simp only [D.calB, decide_eq_true h20, Bool.true_and]
            cases ei : D.ints ds with
            | none => rfl
            | some ns =>
              rw [ints_some ei, ints_all] at ha
              dsimp only
              rw [ha]; rfl
          rw [e] at q
          simp only [dVar, dC, dOp, dUn, dTst, dAnd, dOr, dNot, dAndV, dOrV, dNotV, dIfE, dNil, dCons, dTup, dLst, dNew, dCall, dB, dChain, dNext, dSeq, dDrop, dRet, dRetN, dIf, dAsg, gN, gSeq, gT, dPar2, dPar3, dAug, dRaise, dFor, dYes, dLc, dels, del, put, nth, startN, dFrz, dIx, dPart, dNoP, dSl, dApp, dPut, dM1, dFmt, dJs, dJoined, dIsi, dRg1, dRg2, dLsI, dTpI, dStI, dZip, dEnL, dLsRg1, dLsRg2, dNewK, dNewT, dOneT, dSetSort, dLsZip, dNewCan, oAdd, oSub, oMul, oDiv, oMod, oPow, oLt, oLe, oGt, oGe, oIs, oIsNot, oNeg, oIAdd, D.isN, bLen, bInt, bStr, bAbs, bBool, bList, bTuple, D.ty, D.isInt, D.isBool, D.isStr, D.isTup, D.isLst, List.map_cons, List.map_nil, List.length_cons, List.length_nil, List.replicate_succ, List.replicate_zero, List.cons_append, List.nil_append, Option.isSome_some, if_true, if_false, Bool.false_eq_true, reduceIte, Nat.reduceAdd, Nat.reduceSub, Bool.not_true, Bool.not_false, true_and, and_true]
          exact fg_self q
    · rw [calB_len h20] at q
      rw [decide_eq_true (by omega)]
      simp only [dVar, dC, dOp, dUn, dTst, dAnd, dOr, dNot, dAndV, dOrV, dNotV, dIfE, dNil, dCons, dTup, dLst, dNew, dCall, dB, dChain, dNext, dSeq, dDrop, dRet, dRetN, dIf, dAsg, gN, gSeq, gT, dPar2, dPar3, dAug, dRaise, dFor, dYes, dLc, dels, del, put, nth, startN, dFrz, dIx, dPart, dNoP, dSl, dApp, dPut, dM1, dFmt, dJs, dJoined, dIsi, dRg1, dRg2, dLsI, dTpI, dStI, dZip, dEnL, dLsRg1, dLsRg2, dNewK, dNewT, dOneT, dSetSort, dLsZip, dNewCan, oAdd, oSub, oMul, oDiv, oMod, oPow, oLt, oLe, oGt, oGe, oIs, oIsNot, oNeg, oIAdd, D.isN, bLen, bInt, bStr, bAbs, bBool, bList, bTuple, D.ty, D.isInt, D.isBool, D.isStr, D.isTup, D.isLst, List.map_cons, List.map_nil, List.length_cons, List.length_nil, List.replicate_succ, List.replicate_zero, List.cons_append, List.nil_append, Option.isSome_some, if_true, if_false, Bool.false_eq_true, reduceIte, Nat.reduceAdd, Nat.reduceSub, Bool.not_true, Bool.not_false, true_and, and_true]
      exact fg_self q
  | scr _ => cases ht
  | fn _ => cases ht
  | obj _ => cases ht
  | _ => simp only [t_is_calendar, dVar, dC, dOp, dUn, dTst, dAnd, dOr, dNot, dAndV, dOrV, dNotV, dIfE, dNil, dCons, dTup, dLst, dNew, dCall, dB, dChain, dNext, dSeq, dDrop, dRet, dRetN, dIf, dAsg, gN, gSeq, gT, dPar2, dPar3, dAug, dRaise, dFor, dYes, dLc, dels, del, put, nth, startN, dFrz, dIx, dPart, dNoP, dSl, dApp, dPut, dM1, dFmt, dJs, dJoined, dIsi, dRg1, dRg2, dLsI, dTpI, dStI, dZip, dEnL, dLsRg1, dLsRg2, dNewK, dNewT, dOneT, dSetSort, dLsZip, dNewCan, oAdd, oSub, oMul, oDiv, oMod, oPow, oLt, oLe, oGt, oGe, oIs, oIsNot, oNeg, oIAdd, D.isN, bLen, bInt, bStr, bAbs, bBool, bList, bTuple, D.ty, D.isInt, D.isBool, D.isStr, D.isTup, D.isLst, List.map_cons, List.map_nil, List.length_cons, List.length_nil, List.replicate_succ, List.replicate_zero, List.cons_append, List.nil_append, Option.isSome_some, if_true, if_false, Bool.false_eq_true, reduceIte, Nat.reduceAdd, Nat.reduceSub, Bool.not_true, Bool.not_false, true_and, and_true]; exact fg_self q
/-! ### need_* -/
def S_need_house : DSp := fun ds M Q R => ∃ x : D, x.fine2 ∧ ds = [x] ∧ (x.houseB = true → Q .non M) ∧ (x.houseB = false → R (.mk "InvalidHouse" none) M)
def t_need_house : DTS := dIf (dNot (dTst (dCall S_is_house (dCons (dVar 0) (dNil))))) (dRaise "InvalidHouse") (dNext)
theorem kp_need_house : Keeps S_need_house 1 t_need_house := by
  rintro ds M Q R ⟨x, hf, rfl, q1, q2⟩
  simp only [t_need_house, dVar, dC, dOp, dUn, dTst, dAnd, dOr, dNot, dAndV, dOrV, dNotV, dIfE, dNil, dCons, dTup, dLst, dNew, dCall, dB, dChain, dNext, dSeq, dDrop, dRet, dRetN, dIf, dAsg, gN, gSeq, gT, dPar2, dPar3, dAug, dRaise, dFor, dYes, dLc, dels, del, put, nth, startN, dFrz, dIx, dPart, dNoP, dSl, dApp, dPut, dM1, dFmt, dJs, dJoined, dIsi, dRg1, dRg2, dLsI, dTpI, dStI, dZip, dEnL, dLsRg1, dLsRg2, dNewK, dNewT, dOneT, dSetSort, dLsZip, dNewCan, oAdd, oSub, oMul, oDiv, oMod, oPow, oLt, oLe, oGt, oGe, oIs, oIsNot, oNeg, oIAdd, D.isN, bLen, bInt, bStr, bAbs, bBool, bList, bTuple, D.ty, D.isInt, D.isBool, D.isStr, D.isTup, D.isLst, List.map_cons, List.map_nil, List.length_cons, List.length_nil, List.replicate_succ, List.replicate_zero, List.cons_append, List.nil_append, Option.isSome_some, if_true, if_false, Bool.false_eq_true, reduceIte, Nat.reduceAdd, Nat.reduceSub, Bool.not_true, Bool.not_false, true_and, and_true]
  refine ⟨x, hf, rfl, ?_⟩
  dsimp only
  cases h : x.houseB with
  | true => simp only [dVar, dC, dOp, dUn, dTst, dAnd, dOr, dNot, dAndV, dOrV, dNotV, dIfE, dNil, dCons, dTup, dLst, dNew, dCall, dB, dChain, dNext, dSeq, dDrop, dRet, dRetN, dIf, dAsg, gN, gSeq, gT, dPar2, dPar3, dAug, dRaise, dFor, dYes, dLc, dels, del, put, nth, startN, dFrz, dIx, dPart, dNoP, dSl, dApp, dPut, dM1, dFmt, dJs, dJoined, dIsi, dRg1, dRg2, dLsI, dTpI, dStI, dZip, dEnL, dLsRg1, dLsRg2, dNewK, dNewT, dOneT, dSetSort, dLsZip, dNewCan, oAdd, oSub, oMul, oDiv, oMod, oPow, oLt, oLe, oGt, oGe, oIs, oIsNot, oNeg, oIAdd, D.isN, bLen, bInt, bStr, bAbs, bBool, bList, bTuple, D.ty, D.isInt, D.isBool, D.isStr, D.isTup, D.isLst, List.map_cons, List.map_nil, List.length_cons, List.length_nil, List.replicate_succ, List.replicate_zero, List.cons_append, List.nil_append, Option.isSome_some, if_true, if_false, Bool.false_eq_true, reduceIte, Nat.reduceAdd, Nat.reduceSub, Bool.not_true, Bool.not_false, true_and, and_true]; exact fg_self (q1 h)
  | false => simp only [dVar, dC, dOp, dUn, dTst, dAnd, dOr, dNot, dAndV, dOrV, dNotV, dIfE, dNil, dCons, dTup, dLst, dNew, dCall, dB, dChain, dNext, dSeq, dDrop, dRet, dRetN, dIf, dAsg, gN, gSeq, gT, dPar2, dPar3, dAug, dRaise, dFor, dYes, dLc, dels, del, put, nth, startN, dFrz, dIx, dPart, dNoP, dSl, dApp, dPut, dM1, dFmt, dJs, dJoined, dIsi, dRg1, dRg2, dLsI, dTpI, dStI, dZip, dEnL, dLsRg1, dLsRg2, dNewK, dNewT, dOneT, dSetSort, dLsZip, dNewCan, oAdd, oSub, oMul, oDiv, oMod, oPow, oLt, oLe, oGt, oGe, oIs, oIsNot, oNeg, oIAdd, D.isN, bLen, bInt, bStr, bAbs, bBool, bList, bTuple, D.ty, D.isInt, D.isBool, D.isStr, D.isTup, D.isLst, List.map_cons, List.map_nil, List.length_cons, List.length_nil, List.replicate_succ, List.replicate_zero, List.cons_append, List.nil_append, Option.isSome_some, if_true, if_false, Bool.false_eq_true, reduceIte, Nat.reduceAdd, Nat.reduceSub, Bool.not_true, Bool.not_false, true_and, and_true]; exact fg_self (q2 h)
def S_need_calendar : DSp := fun ds M Q R => ∃ x : D, x.fine2 ∧ ds = [x] ∧ (x.calB = true → Q .non M) ∧ (x.calB = false → R (.mk "InvalidCalendar" none) M)
def t_need_calendar : DTS := dIf (dNot (dTst (dCall S_is_calendar (dCons (dVar 0) (dNil))))) (dRaise "InvalidCalendar") (dNext)
theorem kp_need_calendar : Keeps S_need_calendar 1 t_need_calendar := by
  rintro ds M Q R ⟨x, hf, rfl, q1, q2⟩
  simp only [t_need_calendar, dVar, dC, dOp, dUn, dTst, dAnd, dOr, dNot, dAndV, dOrV, dNotV, dIfE, dNil, dCons, dTup, dLst, dNew, dCall, dB, dChain, dNext, dSeq, dDrop, dRet, dRetN, dIf, dAsg, gN, gSeq, gT, dPar2, dPar3, dAug, dRaise, dFor, dYes, dLc, dels, del, put, nth, startN, dFrz, dIx, dPart, dNoP, dSl, dApp, dPut, dM1, dFmt, dJs, dJoined, dIsi, dRg1, dRg2, dLsI, dTpI, dStI, dZip, dEnL, dLsRg1, dLsRg2, dNewK, dNewT, dOneT, dSetSort, dLsZip, dNewCan, oAdd, oSub, oMul, oDiv, oMod, oPow, oLt, oLe, oGt, oGe, oIs, oIsNot, oNeg, oIAdd, D.isN, bLen, bInt, bStr, bAbs, bBool, bList, bTuple, D.ty, D.isInt, D.isBool, D.isStr, D.isTup, D.isLst, List.map_cons, List.map_nil, List.length_cons, List.length_nil, List.replicate_succ, List.replicate_zero, List.cons_append, List.nil_append, Option.isSome_some, if_true, if_false, Bool.false_eq_true, reduceIte, Nat.reduceAdd, Nat.reduceSub, Bool.not_true, Bool.not_false, true_and, and_true]
  refine ⟨x, hf, rfl, ?_⟩
  dsimp only
  cases h : x.calB with
  | true => simp only [dVar, dC, dOp, dUn, dTst, dAnd, dOr, dNot, dAndV, dOrV, dNotV, dIfE, dNil, dCons, dTup, dLst, dNew, dCall, dB, dChain, dNext, dSeq, dDrop, dRet, dRetN, dIf, dAsg, gN, gSeq, gT, dPar2, dPar3, dAug, dRaise, dFor, dYes, dLc, dels, del, put, nth, startN, dFrz, dIx, dPart, dNoP, dSl, dApp, dPut, dM1, dFmt, dJs, dJoined, dIsi, dRg1, dRg2, dLsI, dTpI, dStI, dZip, dEnL, dLsRg1, dLsRg2, dNewK, dNewT, dOneT, dSetSort, dLsZip, dNewCan, oAdd, oSub, oMul, oDiv, oMod, oPow, oLt, oLe, oGt, oGe, oIs, oIsNot, oNeg, oIAdd, D.isN, bLen, bInt, bStr, bAbs, bBool, bList, bTuple, D.ty, D.isInt, D.isBool, D.isStr, D.isTup, D.isLst, List.map_cons, List.map_nil, List.length_cons, List.length_nil, List.replicate_succ, List.replicate_zero, List.cons_append, List.nil_append, Option.isSome_some, if_true, if_false, Bool.false_eq_true, reduceIte, Nat.reduceAdd, Nat.reduceSub, Bool.not_true, Bool.not_false, true_and, and_true]; exact fg_self (q1 h)
  | false => simp only [dVar, dC, dOp, dUn, dTst, dAnd, dOr, dNot, dAndV, dOrV, dNotV, dIfE, dNil, dCons, dTup, dLst, dNew, dCall, dB, dChain, dNext, dSeq, dDrop, dRet, dRetN, dIf, dAsg, gN, gSeq, gT, dPar2, dPar3, dAug, dRaise, dFor, dYes, dLc, dels, del, put, nth, startN, dFrz, dIx, dPart, dNoP, dSl, dApp, dPut, dM1, dFmt, dJs, dJoined, dIsi, dRg1, dRg2, dLsI, dTpI, dStI, dZip, dEnL, dLsRg1, dLsRg2, dNewK, dNewT, dOneT, dSetSort, dLsZip, dNewCan, oAdd, oSub, oMul, oDiv, oMod, oPow, oLt, oLe, oGt, oGe, oIs, oIsNot, oNeg, oIAdd, D.isN, bLen, bInt, bStr, bAbs, bBool, bList, bTuple, D.ty, D.isInt, D.isBool, D.isStr, D.isTup, D.isLst, List.map_cons, List.map_nil, List.length_cons, List.length_nil, List.replicate_succ, List.replicate_zero, List.cons_append, List.nil_append, Option.isSome_some, if_true, if_false, Bool.false_eq_true, reduceIte, Nat.reduceAdd, Nat.reduceSub, Bool.not_true, Bool.not_false, true_and, and_true]; exact fg_self (q2 h)
def S_need_day : DSp := fun ds M Q R => ∃ x : D, x.ty.isSome = true ∧ ds = [x] ∧ (x.inB 0 great = true → Q .non M) ∧ (x.inB 0 great = false → R (.mk "InvalidDay" none) M)
def t_need_day : DTS := dIf (dNot (dTst (dCall S_is_integer (dCons (dVar 0) (dCons (dC (.int 0)) (dCons (dC (.int 1000000000000000000000000000000)) (dNil))))))) (dRaise "InvalidDay") (dNext)
theorem kp_need_day : Keeps S_need_day 1 t_need_day := by
  rintro ds M Q R ⟨x, hf, rfl, q1, q2⟩
  simp only [t_need_day, dVar, dC, dOp, dUn, dTst, dAnd, dOr, dNot, dAndV, dOrV, dNotV, dIfE, dNil, dCons, dTup, dLst, dNew, dCall, dB, dChain, dNext, dSeq, dDrop, dRet, dRetN, dIf, dAsg, gN, gSeq, gT, dPar2, dPar3, dAug, dRaise, dFor, dYes, dLc, dels, del, put, nth, startN, dFrz, dIx, dPart, dNoP, dSl, dApp, dPut, dM1, dFmt, dJs, dJoined, dIsi, dRg1, dRg2, dLsI, dTpI, dStI, dZip, dEnL, dLsRg1, dLsRg2, dNewK, dNewT, dOneT, dSetSort, dLsZip, dNewCan, oAdd, oSub, oMul, oDiv, oMod, oPow, oLt, oLe, oGt, oGe, oIs, oIsNot, oNeg, oIAdd, D.isN, bLen, bInt, bStr, bAbs, bBool, bList, bTuple, D.ty, D.isInt, D.isBool, D.isStr, D.isTup, D.isLst, List.map_cons, List.map_nil, List.length_cons, List.length_nil, List.replicate_succ, List.replicate_zero, List.cons_append, List.nil_append, Option.isSome_some, if_true, if_false, Bool.false_eq_true, reduceIte, Nat.reduceAdd, Nat.reduceSub, Bool.not_true, Bool.not_false, true_and, and_true]
  refine ⟨x, _, _, hf, rfl, ?_⟩
  dsimp only
  cases h : x.inB 0 great with
  | true => simp only [dVar, dC, dOp, dUn, dTst, dAnd, dOr, dNot, dAndV, dOrV, dNotV, dIfE, dNil, dCons, dTup, dLst, dNew, dCall, dB, dChain, dNext, dSeq, dDrop, dRet, dRetN, dIf, dAsg, gN, gSeq, gT, dPar2, dPar3, dAug, dRaise, dFor, dYes, dLc, dels, del, put, nth, startN, dFrz, dIx, dPart, dNoP, dSl, dApp, dPut, dM1, dFmt, dJs, dJoined, dIsi, dRg1, dRg2, dLsI, dTpI, dStI, dZip, dEnL, dLsRg1, dLsRg2, dNewK, dNewT, dOneT, dSetSort, dLsZip, dNewCan, oAdd, oSub, oMul, oDiv, oMod, oPow, oLt, oLe, oGt, oGe, oIs, oIsNot, oNeg, oIAdd, D.isN, bLen, bInt, bStr, bAbs, bBool, bList, bTuple, D.ty, D.isInt, D.isBool, D.isStr, D.isTup, D.isLst, List.map_cons, List.map_nil, List.length_cons, List.length_nil, List.replicate_succ, List.replicate_zero, List.cons_append, List.nil_append, Option.isSome_some, if_true, if_false, Bool.false_eq_true, reduceIte, Nat.reduceAdd, Nat.reduceSub, Bool.not_true, Bool.not_false, true_and, and_true]; exact fg_self (q1 h)
  | false => simp only [dVar, dC, dOp, dUn, dTst, dAnd, dOr, dNot, dAndV, dOrV, dNotV, dIfE, dNil, dCons, dTup, dLst, dNew, dCall, dB, dChain, dNext, dSeq, dDrop, dRet, dRetN, dIf, dAsg, gN, gSeq, gT, dPar2, dPar3, dAug, dRaise, dFor, dYes, dLc, dels, del, put, nth, startN, dFrz, dIx, dPart, dNoP, dSl, dApp, dPut, dM1, dFmt, dJs, dJoined, dIsi, dRg1, dRg2, dLsI, dTpI, dStI, dZip, dEnL, dLsRg1, dLsRg2, dNewK, dNewT, dOneT, dSetSort, dLsZip, dNewCan, oAdd, oSub, oMul, oDiv, oMod, oPow, oLt, oLe, oGt, oGe, oIs, oIsNot, oNeg, oIAdd, D.isN, bLen, bInt, bStr, bAbs, bBool, bList, bTuple, D.ty, D.isInt, D.isBool, D.isStr, D.isTup, D.isLst, List.map_cons, List.map_nil, List.length_cons, List.length_nil, List.replicate_succ, List.replicate_zero, List.cons_append, List.nil_append, Option.isSome_some, if_true, if_false, Bool.false_eq_true, reduceIte, Nat.reduceAdd, Nat.reduceSub, Bool.not_true, Bool.not_false, true_and, and_true]; exact fg_self (q2 h)
def S_need_number : DSp := fun ds M Q R => ∃ (x : D) (lo hi : Int), x.ty.isSome = true ∧ ds = [x, .int lo, .int hi] ∧ (x.inB lo hi = true → Q .non M) ∧ (x.inB lo hi = false → R (.mk "InvalidNumber" none) M)
def t_need_number : DTS := dIf (dNot (dTst (dCall S_is_integer (dCons (dVar 0) (dCons (dVar 1) (dCons (dVar 2) (dNil))))))) (dRaise "InvalidNumber") (dNext)
theorem kp_need_number : Keeps S_need_number 3 t_need_number := by
  rintro ds M Q R ⟨x, lo, hi, hf, rfl, q1, q2⟩
  simp only [t_need_number, dVar, dC, dOp, dUn, dTst, dAnd, dOr, dNot, dAndV, dOrV, dNotV, dIfE, dNil, dCons, dTup, dLst, dNew, dCall, dB, dChain, dNext, dSeq, dDrop, dRet, dRetN, dIf, dAsg, gN, gSeq, gT, dPar2, dPar3, dAug, dRaise, dFor, dYes, dLc, dels, del, put, nth, startN, dFrz, dIx, dPart, dNoP, dSl, dApp, dPut, dM1, dFmt, dJs, dJoined, dIsi, dRg1, dRg2, dLsI, dTpI, dStI, dZip, dEnL, dLsRg1, dLsRg2, dNewK, dNewT, dOneT, dSetSort, dLsZip, dNewCan, oAdd, oSub, oMul, oDiv, oMod, oPow, oLt, oLe, oGt, oGe, oIs, oIsNot, oNeg, oIAdd, D.isN, bLen, bInt, bStr, bAbs, bBool, bList, bTuple, D.ty, D.isInt, D.isBool, D.isStr, D.isTup, D.isLst, List.map_cons, List.map_nil, List.length_cons, List.length_nil, List.replicate_succ, List.replicate_zero, List.cons_append, List.nil_append, Option.isSome_some, if_true, if_false, Bool.false_eq_true, reduceIte, Nat.reduceAdd, Nat.reduceSub, Bool.not_true, Bool.not_false, true_and, and_true]
  refine ⟨x, _, _, hf, rfl, ?_⟩
  dsimp only
  cases h : x.inB lo hi with
  | true => simp only [dVar, dC, dOp, dUn, dTst, dAnd, dOr, dNot, dAndV, dOrV, dNotV, dIfE, dNil, dCons, dTup, dLst, dNew, dCall, dB, dChain, dNext, dSeq, dDrop, dRet, dRetN, dIf, dAsg, gN, gSeq, gT, dPar2, dPar3, dAug, dRaise, dFor, dYes, dLc, dels, del, put, nth, startN, dFrz, dIx, dPart, dNoP, dSl, dApp, dPut, dM1, dFmt, dJs, dJoined, dIsi, dRg1, dRg2, dLsI, dTpI, dStI, dZip, dEnL, dLsRg1, dLsRg2, dNewK, dNewT, dOneT, dSetSort, dLsZip, dNewCan, oAdd, oSub, oMul, oDiv, oMod, oPow, oLt, oLe, oGt, oGe, oIs, oIsNot, oNeg, oIAdd, D.isN, bLen, bInt, bStr, bAbs, bBool, bList, bTuple, D.ty, D.isInt, D.isBool, D.isStr, D.isTup, D.isLst, List.map_cons, List.map_nil, List.length_cons, List.length_nil, List.replicate_succ, List.replicate_zero, List.cons_append, List.nil_append, Option.isSome_some, if_true, if_false, Bool.false_eq_true, reduceIte, Nat.reduceAdd, Nat.reduceSub, Bool.not_true, Bool.not_false, true_and, and_true]; exact fg_self (q1 h)
  | false => simp only [dVar, dC, dOp, dUn, dTst, dAnd, dOr, dNot, dAndV, dOrV, dNotV, dIfE, dNil, dCons, dTup, dLst, dNew, dCall, dB, dChain, dNext, dSeq, dDrop, dRet, dRetN, dIf, dAsg, gN, gSeq, gT, dPar2, dPar3, dAug, dRaise, dFor, dYes, dLc, dels, del, put, nth, startN, dFrz, dIx, dPart, dNoP, dSl, dApp, dPut, dM1, dFmt, dJs, dJoined, dIsi, dRg1, dRg2, dLsI, dTpI, dStI, dZip, dEnL, dLsRg1, dLsRg2, dNewK, dNewT, dOneT, dSetSort, dLsZip, dNewCan, oAdd, oSub, oMul, oDiv, oMod, oPow, oLt, oLe, oGt, oGe, oIs, oIsNot, oNeg, oIAdd, D.isN, bLen, bInt, bStr, bAbs, bBool, bList, bTuple, D.ty, D.isInt, D.isBool, D.isStr, D.isTup, D.isLst, List.map_cons, List.map_nil, List.length_cons, List.length_nil, List.replicate_succ, List.replicate_zero, List.cons_append, List.nil_append, Option.isSome_some, if_true, if_false, Bool.false_eq_true, reduceIte, Nat.reduceAdd, Nat.reduceSub, Bool.not_true, Bool.not_false, true_and, and_true]; exact fg_self (q2 h)
def S_need_kind : DSp := fun ds M Q R => ∃ x y : D, x.ty.isSome = true ∧ (x.inB 0 7 = true → y.fine) ∧ ds = [x, y] ∧ (x.inB 0 7 = true → y.wkB = true → Q .non M) ∧ (x.inB 0 7 = false → R (.mk "InvalidNumber" none) M) ∧ (x.inB 0 7 = true → y.wkB = false → R (.mk "InvalidWeekdays" none) M)
def t_need_kind : DTS := dSeq (dDrop (dCall S_need_number (dCons (dVar 0) (dCons (dC (.int 0)) (dCons (dC (.int 7)) (dNil)))))) (dIf (dNot (dTst (dCall S_are_weekdays (dCons (dVar 1) (dNil))))) (dRaise "InvalidWeekdays") (dNext))
theorem kp_need_kind : Keeps S_need_kind 2 t_need_kind := by
  rintro ds M Q R ⟨x, y, hf, hg, rfl, q1, q2, q3⟩
  simp only [t_need_kind, dVar, dC, dOp, dUn, dTst, dAnd, dOr, dNot, dAndV, dOrV, dNotV, dIfE, dNil, dCons, dTup, dLst, dNew, dCall, dB, dChain, dNext, dSeq, dDrop, dRet, dRetN, dIf, dAsg, gN, gSeq, gT, dPar2, dPar3, dAug, dRaise, dFor, dYes, dLc, dels, del, put, nth, startN, dFrz, dIx, dPart, dNoP, dSl, dApp, dPut, dM1, dFmt, dJs, dJoined, dIsi, dRg1, dRg2, dLsI, dTpI, dStI, dZip, dEnL, dLsRg1, dLsRg2, dNewK, dNewT, dOneT, dSetSort, dLsZip, dNewCan, oAdd, oSub, oMul, oDiv, oMod, oPow, oLt, oLe, oGt, oGe, oIs, oIsNot, oNeg, oIAdd, D.isN, bLen, bInt, bStr, bAbs, bBool, bList, bTuple, D.ty, D.isInt, D.isBool, D.isStr, D.isTup, D.isLst, List.map_cons, List.map_nil, List.length_cons, List.length_nil, List.replicate_succ, List.replicate_zero, List.cons_append, List.nil_append, Option.isSome_some, if_true, if_false, Bool.false_eq_true, reduceIte, Nat.reduceAdd, Nat.reduceSub, Bool.not_true, Bool.not_false, true_and, and_true]
  refine ⟨x, _, _, hf, rfl, fun h => ?_, fun h => fg_self (q2 h)⟩
  refine ⟨y, hg h, rfl, ?_⟩
  dsimp only
  cases hw : y.wkB with
  | true => simp only [dVar, dC, dOp, dUn, dTst, dAnd, dOr, dNot, dAndV, dOrV, dNotV, dIfE, dNil, dCons, dTup, dLst, dNew, dCall, dB, dChain, dNext, dSeq, dDrop, dRet, dRetN, dIf, dAsg, gN, gSeq, gT, dPar2, dPar3, dAug, dRaise, dFor, dYes, dLc, dels, del, put, nth, startN, dFrz, dIx, dPart, dNoP, dSl, dApp, dPut, dM1, dFmt, dJs, dJoined, dIsi, dRg1, dRg2, dLsI, dTpI, dStI, dZip, dEnL, dLsRg1, dLsRg2, dNewK, dNewT, dOneT, dSetSort, dLsZip, dNewCan, oAdd, oSub, oMul, oDiv, oMod, oPow, oLt, oLe, oGt, oGe, oIs, oIsNot, oNeg, oIAdd, D.isN, bLen, bInt, bStr, bAbs, bBool, bList, bTuple, D.ty, D.isInt, D.isBool, D.isStr, D.isTup, D.isLst, List.map_cons, List.map_nil, List.length_cons, List.length_nil, List.replicate_succ, List.replicate_zero, List.cons_append, List.nil_append, Option.isSome_some, if_true, if_false, Bool.false_eq_true, reduceIte, Nat.reduceAdd, Nat.reduceSub, Bool.not_true, Bool.not_false, true_and, and_true]; exact fg_self (q1 h hw)
  | false => simp only [dVar, dC, dOp, dUn, dTst, dAnd, dOr, dNot, dAndV, dOrV, dNotV, dIfE, dNil, dCons, dTup, dLst, dNew, dCall, dB, dChain, dNext, dSeq, dDrop, dRet, dRetN, dIf, dAsg, gN, gSeq, gT, dPar2, dPar3, dAug, dRaise, dFor, dYes, dLc, dels, del, put, nth, startN, dFrz, dIx, dPart, dNoP, dSl, dApp, dPut, dM1, dFmt, dJs, dJoined, dIsi, dRg1, dRg2, dLsI, dTpI, dStI, dZip, dEnL, dLsRg1, dLsRg2, dNewK, dNewT, dOneT, dSetSort, dLsZip, dNewCan, oAdd, oSub, oMul, oDiv, oMod, oPow, oLt, oLe, oGt, oGe, oIs, oIsNot, oNeg, oIAdd, D.isN, bLen, bInt, bStr, bAbs, bBool, bList, bTuple, D.ty, D.isInt, D.isBool, D.isStr, D.isTup, D.isLst, List.map_cons, List.map_nil, List.length_cons, List.length_nil, List.replicate_succ, List.replicate_zero, List.cons_append, List.nil_append, Option.isSome_some, if_true, if_false, Bool.false_eq_true, reduceIte, Nat.reduceAdd, Nat.reduceSub, Bool.not_true, Bool.not_false, true_and, and_true]; exact fg_self (q3 h hw)
end Dl
namespace Dl
open PySem
/-! # running: when rounds are done -/
def cal (ns : List Int) : D := .tup (ns.map D.int)
/-- waits behind k days from b on -/
def wr (h : Hs) (ns : List Int) (b : Nat) : Nat → Int → Int
  | 0, w => w
  | k + 1, w => wb h ((b + k : Nat) : Int) (wr h ns b k w) (decide (((b + k : Nat) : Int) ∈ ns))
def wa (h : Hs) (ns : List Int) (n : Nat) : Int := wr h ns 0 n 0
theorem wr_add (h : Hs) (ns : List Int) (b j : Nat) (w : Int) : ∀ k, wr h ns b (j + k) w = wr h ns (b + j) k (wr h ns b j w)
  | 0 => rfl
  | k + 1 => by
    have e : wr h ns b (j + (k + 1)) w = wb h ((b + (j + k) : Nat) : Int) (wr h ns b (j + k) w) (decide (((b + (j + k) : Nat) : Int) ∈ ns)) := rfl
    rw [e, wr_add h ns b j w k, ← Nat.add_assoc]; rfl
theorem any_cal (x : Int) : ∀ ns : List Int, D.any (.int x) (ns.map D.int) = decide (x ∈ ns)
  | [] => rfl
  | a :: ns => by
    rw [List.map_cons, D.any, any_cal x ns, eqv_int]
    by_cases h : a = x
    · subst h; simp
    · rw [decide_eq_false h, Bool.false_or]; apply decide_eq_decide.mpr; simp [Ne.symm h]
theorem flat_ints (ns : List Int) : (ns.map D.int).all D.flat = true := by
  rw [List.all_map, List.all_eq_true]; intro _ _; rfl
theorem in_cal (x : Int) (ns : List Int) (M : Mem) (Q : DQ) (q : Q (.bl (decide (x ∈ ns))) M) : qIn false (.int x) (cal ns) M Q := by
  refine ⟨⟨rfl, flat_ints ns⟩, ?_⟩
  rw [any_cal, xorf]; exact q
def S_week_behind : DSp := fun ds M Q R => ∃ (h : Hs) (ns : List Int) (b : Nat) (w : Int), h.Ok ∧ ds = [h.d, cal ns, .int (b : Int), .int w] ∧ Q (.int (wr h ns b 7 w)) M
def t_week_behind : DTS := dSeq (dFor (dRg2 (dVar 2) (dOp oAdd (dVar 2) (dC (.int 7)))) (gN 4) (dAsg (dCall S_waits_behind (dCons (dVar 0) (dCons (dVar 4) (dCons (dVar 3) (dCons (dOp (qIn false) (dVar 4) (dVar 1)) (dNil)))))) (gN 3))) (dRet (dVar 3))
theorem kp_week_behind : Keeps S_week_behind 5 t_week_behind := by
  rintro ds M Q R ⟨h, ns, b, w, ok, rfl, q⟩
  simp only [t_week_behind, dVar, dC, dOp, dUn, dTst, dAnd, dOr, dNot, dAndV, dOrV, dNotV, dIfE, dNil, dCons, dTup, dLst, dNew, dCall, dB, dChain, dNext, dSeq, dDrop, dRet, dRetN, dIf, dAsg, gN, gSeq, gT, dPar2, dPar3, dAug, dRaise, dFor, dYes, dLc, dels, del, put, nth, startN, dFrz, dIx, dPart, dNoP, dSl, dApp, dPut, dM1, dFmt, dJs, dJoined, dIsi, dRg1, dRg2, dLsI, dTpI, dStI, dZip, dEnL, dLsRg1, dLsRg2, dNewK, dNewT, dOneT, dSetSort, dLsZip, dNewCan, oAdd, oSub, oMul, oDiv, oMod, oPow, oLt, oLe, oGt, oGe, oIs, oIsNot, oNeg, oIAdd, D.isN, bLen, bInt, bStr, bAbs, bBool, bList, bTuple, D.ty, D.isInt, D.isBool, D.isStr, D.isTup, D.isLst, List.map_cons, List.map_nil, List.length_cons, List.length_nil, List.replicate_succ, List.replicate_zero, List.cons_append, List.nil_append, Option.isSome_some, if_true, if_false, Bool.false_eq_true, reduceIte, Nat.reduceAdd, Nat.reduceSub, Bool.not_true, Bool.not_false, true_and, and_true]
  refine ⟨_, _, rfl, rfl, ?_⟩
  have e7 : ((b : Int) + 7 - b).toNat = 7 := by omega
  rw [e7]
  refine loop_inv (fun i ρ M' => M' = M ∧ ∃ o, ρ = [some h.d, some (cal ns), some (.int (b : Int)), some (.int (wr h ns b i w)), o]) _ ⟨rfl, _, rfl⟩ ?_ ?_
  · rintro i d ρ M' N hd ⟨rfl, o, rfl⟩ hN
    have hi : i < 7 := by
      have := (List.getElem?_eq_some_iff.mp hd).1
      rwa [rgD_length] at this
    rw [rgD_get hi] at hd
    cases hd
    simp only [dVar, dC, dOp, dUn, dTst, dAnd, dOr, dNot, dAndV, dOrV, dNotV, dIfE, dNil, dCons, dTup, dLst, dNew, dCall, dB, dChain, dNext, dSeq, dDrop, dRet, dRetN, dIf, dAsg, gN, gSeq, gT, dPar2, dPar3, dAug, dRaise, dFor, dYes, dLc, dels, del, put, nth, startN, dFrz, dIx, dPart, dNoP, dSl, dApp, dPut, dM1, dFmt, dJs, dJoined, dIsi, dRg1, dRg2, dLsI, dTpI, dStI, dZip, dEnL, dLsRg1, dLsRg2, dNewK, dNewT, dOneT, dSetSort, dLsZip, dNewCan, oAdd, oSub, oMul, oDiv, oMod, oPow, oLt, oLe, oGt, oGe, oIs, oIsNot, oNeg, oIAdd, D.isN, bLen, bInt, bStr, bAbs, bBool, bList, bTuple, D.ty, D.isInt, D.isBool, D.isStr, D.isTup, D.isLst, List.map_cons, List.map_nil, List.length_cons, List.length_nil, List.replicate_succ, List.replicate_zero, List.cons_append, List.nil_append, Option.isSome_some, if_true, if_false, Bool.false_eq_true, reduceIte, Nat.reduceAdd, Nat.reduceSub, Bool.not_true, Bool.not_false, true_and, and_true]
    rw [show (b : Int) + (i : Nat) = ((b + i : Nat) : Int) by omega]
    exact in_cal _ _ _ _ ⟨h, _, _, _, ok, rfl, hN _ _ ⟨rfl, _, rfl⟩⟩
  · rintro ρ M' ⟨rfl, o, rfl⟩
    rw [rgD_length]
    simp only [dVar, dC, dOp, dUn, dTst, dAnd, dOr, dNot, dAndV, dOrV, dNotV, dIfE, dNil, dCons, dTup, dLst, dNew, dCall, dB, dChain, dNext, dSeq, dDrop, dRet, dRetN, dIf, dAsg, gN, gSeq, gT, dPar2, dPar3, dAug, dRaise, dFor, dYes, dLc, dels, del, put, nth, startN, dFrz, dIx, dPart, dNoP, dSl, dApp, dPut, dM1, dFmt, dJs, dJoined, dIsi, dRg1, dRg2, dLsI, dTpI, dStI, dZip, dEnL, dLsRg1, dLsRg2, dNewK, dNewT, dOneT, dSetSort, dLsZip, dNewCan, oAdd, oSub, oMul, oDiv, oMod, oPow, oLt, oLe, oGt, oGe, oIs, oIsNot, oNeg, oIAdd, D.isN, bLen, bInt, bStr, bAbs, bBool, bList, bTuple, D.ty, D.isInt, D.isBool, D.isStr, D.isTup, D.isLst, List.map_cons, List.map_nil, List.length_cons, List.length_nil, List.replicate_succ, List.replicate_zero, List.cons_append, List.nil_append, Option.isSome_some, if_true, if_false, Bool.false_eq_true, reduceIte, Nat.reduceAdd, Nat.reduceSub, Bool.not_true, Bool.not_false, true_and, and_true]
    exact fg_self q
theorem wr_free (h : Hs) (ns : List Int) (b b' : Nat) (hb : b % 7 = b' % 7) (w : Int) : ∀ k, (∀ j, j < k → (((b + j : Nat) : Int) ∈ ns ↔ ((b' + j : Nat) : Int) ∈ ns)) → wr h ns b k w = wr h ns b' k w
  | 0, _ => rfl
  | k + 1, hj => by
    have h1 := wr_free h ns b b' hb w k fun j h => hj j (by omega)
    have h2 : md7 ((b + k : Nat) : Int) = md7 ((b' + k : Nat) : Int) := by unfold md7; omega
    show wb h _ _ _ = wb h _ _ _
    unfold wb bo mdn
    rw [h1, h2, decide_eq_decide.mpr (hj k (by omega))]
/-- weeks that change nothing -/
theorem wr_weeks (h : Hs) (ns : List Int) (b : Nat) (w : Int) (h7 : wr h ns b 7 w = w) (k : Nat) (hf : ∀ j, j < 7 * (k + 1) → ((b + j : Nat) : Int) ∉ ns) : wr h ns b (7 * (k + 1)) w = w := by
  induction k with
  | zero => exact h7
  | succ k ih =>
    rw [show 7 * (k + 1 + 1) = 7 * (k + 1) + 7 by omega, wr_add, ih fun j hj => hf j (by omega)]
    rw [← wr_free h ns b (b + 7 * (k + 1)) (by omega) w 7 fun j hj => ⟨fun z => absurd z (hf j (by omega)), fun z => absurd z (by rw [Nat.add_assoc]; exact hf _ (by omega))⟩]
    exact h7
def S_waits_ahead : DSp := fun ds M Q R => ∃ (h : Hs) (ns : List Int) (g : Nat), h.Ok ∧ ns.length ≤ 20 ∧ ds = [h.d, cal ns, .int (g : Int)] ∧ Q (.int (wa h ns g)) M
def t_waits_ahead : DTS := dSeq (dAsg (dTup (dCons (dC (.int 0)) (dCons (dC (.int 0)) (dNil)))) (gT [gN 3, gN 4])) (dSeq (dWhile (dTst (dOp oLe (dOp oAdd (dVar 3) (dC (.int 7))) (dVar 2))) (dSeq (dAsg (dCall S_week_behind (dCons (dVar 0) (dCons (dVar 1) (dCons (dVar 3) (dCons (dVar 4) (dNil)))))) (gN 5)) (dSeq (dAsg (dOp oAdd (dVar 3) (dC (.int 7))) (gN 6)) (dSeq (dIf (dAnd (dTst (dOp oEq (dVar 5) (dVar 4))) (dNot (dTst (dB bAny (dCons (dLc [8] (dTpI (dVar 1)) (gN 8) (dYes) (dChain oLe oLt (dVar 3) (dVar 8) (dVar 6))) (dNil)))))) (dSeq (dAsg (dLc [8] (dTpI (dVar 1)) (gN 8) (dTst (dOp oGe (dVar 8) (dVar 6))) (dOp oSub (dVar 8) (dOp oMod (dVar 8) (dC (.int 7))))) (gN 7)) (dAsg (dB bMax (dCons (dVar 6) (dCons (dB bMin (dCons (dOp oAdd (dVar 7) (dLst (dCons (dOp oSub (dVar 2) (dOp oMod (dVar 2) (dC (.int 7)))) (dNil)))) (dNil))) (dNil)))) (gN 6))) (dNext)) (dAsg (dTup (dCons (dVar 6) (dCons (dVar 5) (dNil)))) (gT [gN 3, gN 4])))))) (dSeq (dFor (dRg2 (dVar 3) (dVar 2)) (gN 8) (dAsg (dCall S_waits_behind (dCons (dVar 0) (dCons (dVar 8) (dCons (dVar 4) (dCons (dOp (qIn false) (dVar 8) (dVar 1)) (dNil)))))) (gN 4))) (dRet (dVar 4))))
theorem min_of : ∀ (ns : List Int), ns ≠ [] → ∃ m, m ∈ ns ∧ ∀ y, y ∈ ns → m ≤ y
  | [a], _ => ⟨a, by simp, by simp⟩
  | a :: b :: l, _ => by
    obtain ⟨m, h1, h2⟩ := min_of (b :: l) (by simp)
    by_cases h : a ≤ m
    · refine ⟨a, by simp, fun y hy => ?_⟩
      rcases List.mem_cons.mp hy with e | e
      · rw [e]; exact Int.le_refl _
      · exact Int.le_trans h (h2 y e)
    · refine ⟨m, List.mem_cons_of_mem _ h1, fun y hy => ?_⟩
      rcases List.mem_cons.mp hy with e | e
      · rw [e]; omega
      · exact h2 y e
theorem kp_waits_ahead : Keeps S_waits_ahead 9 t_waits_ahead := by
  rintro ds M Q R ⟨h, ns, g, ok, hl, rfl, q⟩
  simp only [t_waits_ahead, dVar, dC, dOp, dUn, dTst, dAnd, dOr, dNot, dAndV, dOrV, dNotV, dIfE, dNil, dCons, dTup, dLst, dNew, dCall, dB, dChain, dNext, dSeq, dDrop, dRet, dRetN, dIf, dAsg, gN, gSeq, gT, dPar2, dPar3, dAug, dRaise, dFor, dYes, dLc, dels, del, put, nth, startN, dFrz, dIx, dPart, dNoP, dSl, dApp, dPut, dM1, dFmt, dJs, dJoined, dIsi, dRg1, dRg2, dLsI, dTpI, dStI, dZip, dEnL, dLsRg1, dLsRg2, dNewK, dNewT, dOneT, dSetSort, dLsZip, dNewCan, oAdd, oSub, oMul, oDiv, oMod, oPow, oLt, oLe, oGt, oGe, oIs, oIsNot, oNeg, oIAdd, D.isN, bLen, bInt, bStr, bAbs, bBool, bList, bTuple, D.ty, D.isInt, D.isBool, D.isStr, D.isTup, D.isLst, List.map_cons, List.map_nil, List.length_cons, List.length_nil, List.replicate_succ, List.replicate_zero, List.cons_append, List.nil_append, Option.isSome_some, if_true, if_false, Bool.false_eq_true, reduceIte, Nat.reduceAdd, Nat.reduceSub, Bool.not_true, Bool.not_false, true_and, and_true, gSeq]
  refine ⟨by decide, ?_⟩
  refine while_inv (fun m ρ M' => M' = M ∧ ∃ (b : Nat) (o5 o6 o7 : Option D), b % 7 = 0 ∧ b ≤ g ∧ m = g - b ∧ ρ = [some h.d, some (cal ns), some (.int (g : Int)), some (.int (b : Int)), some (.int (wa h ns b)), o5, o6, o7, none]) (m := g) ⟨rfl, 0, none, none, none, rfl, Nat.zero_le _, rfl, rfl⟩ ?_
  rintro m ρ M' N ⟨rfl, b, o5, o6, o7, hb7, hbg, rfl, rfl⟩ hN
  simp only [dVar, dC, dOp, dUn, dTst, dAnd, dOr, dNot, dAndV, dOrV, dNotV, dIfE, dNil, dCons, dTup, dLst, dNew, dCall, dB, dChain, dNext, dSeq, dDrop, dRet, dRetN, dIf, dAsg, gN, gSeq, gT, dPar2, dPar3, dAug, dRaise, dFor, dYes, dLc, dels, del, put, nth, startN, dFrz, dIx, dPart, dNoP, dSl, dApp, dPut, dM1, dFmt, dJs, dJoined, dIsi, dRg1, dRg2, dLsI, dTpI, dStI, dZip, dEnL, dLsRg1, dLsRg2, dNewK, dNewT, dOneT, dSetSort, dLsZip, dNewCan, oAdd, oSub, oMul, oDiv, oMod, oPow, oLt, oLe, oGt, oGe, oIs, oIsNot, oNeg, oIAdd, D.isN, bLen, bInt, bStr, bAbs, bBool, bList, bTuple, D.ty, D.isInt, D.isBool, D.isStr, D.isTup, D.isLst, List.map_cons, List.map_nil, List.length_cons, List.length_nil, List.replicate_succ, List.replicate_zero, List.cons_append, List.nil_append, Option.isSome_some, if_true, if_false, Bool.false_eq_true, reduceIte, Nat.reduceAdd, Nat.reduceSub, Bool.not_true, Bool.not_false, true_and, and_true]
  by_cases hlt : b + 7 ≤ g
  · rw [decide_eq_true (show (b : Int) + 7 ≤ g by omega)]
    simp only [dVar, dC, dOp, dUn, dTst, dAnd, dOr, dNot, dAndV, dOrV, dNotV, dIfE, dNil, dCons, dTup, dLst, dNew, dCall, dB, dChain, dNext, dSeq, dDrop, dRet, dRetN, dIf, dAsg, gN, gSeq, gT, dPar2, dPar3, dAug, dRaise, dFor, dYes, dLc, dels, del, put, nth, startN, dFrz, dIx, dPart, dNoP, dSl, dApp, dPut, dM1, dFmt, dJs, dJoined, dIsi, dRg1, dRg2, dLsI, dTpI, dStI, dZip, dEnL, dLsRg1, dLsRg2, dNewK, dNewT, dOneT, dSetSort, dLsZip, dNewCan, oAdd, oSub, oMul, oDiv, oMod, oPow, oLt, oLe, oGt, oGe, oIs, oIsNot, oNeg, oIAdd, D.isN, bLen, bInt, bStr, bAbs, bBool, bList, bTuple, D.ty, D.isInt, D.isBool, D.isStr, D.isTup, D.isLst, List.map_cons, List.map_nil, List.length_cons, List.length_nil, List.replicate_succ, List.replicate_zero, List.cons_append, List.nil_append, Option.isSome_some, if_true, if_false, Bool.false_eq_true, reduceIte, Nat.reduceAdd, Nat.reduceSub, Bool.not_true, Bool.not_false, true_and, and_true]
    refine ⟨h, ns, b, _, ok, rfl, ok_int _, ok_int _, ?_⟩
    have h7 : wa h ns (b + 7) = wr h ns b 7 (wa h ns b) := by
      have := wr_add h ns 0 b 0 7
      rw [Nat.zero_add] at this; exact this
    -- the next place and what waits there
    have fin : ∀ (b' : Nat) (o5 o6 o7 : Option D), b' % 7 = 0 → b < b' → b' ≤ g → wa h ns b' = wr h ns b 7 (wa h ns b) → N [some h.d, some (cal ns), some (.int (g : Int)), some (.int (b' : Int)), some (.int (wr h ns b 7 (wa h ns b))), o5, o6, o7, none] M' := fun b' o5 o6 o7 h1 h2 h3 h4 =>
      hN (g - b') _ _ (by omega) ⟨rfl, b', o5, o6, o7, h1, h3, rfl, by rw [h4]⟩
    dsimp only
    rw [eqv_int]
    have plain : ((2 : Nat) ≤ 100000 ∧ N [some h.d, some (cal ns), some (.int (g : Int)), some (.int ((b : Int) + 7)), some (.int (wr h ns b 7 (wa h ns b))), some (.int (wr h ns b 7 (wa h ns b))), some (.int ((b : Int) + 7)), o7, none] M') :=
      ⟨by decide, by
        have := fin (b + 7) (some (.int (wr h ns b 7 (wa h ns b)))) (some (.int ((b : Int) + 7))) o7 (by omega) (by omega) hlt h7
        rw [show ((b + 7 : Nat) : Int) = (b : Int) + 7 by omega] at this; exact this⟩
    by_cases he : wr h ns b 7 (wa h ns b) = wa h ns b
    · rw [decide_eq_true he]
      simp only [dVar, dC, dOp, dUn, dTst, dAnd, dOr, dNot, dAndV, dOrV, dNotV, dIfE, dNil, dCons, dTup, dLst, dNew, dCall, dB, dChain, dNext, dSeq, dDrop, dRet, dRetN, dIf, dAsg, gN, gSeq, gT, dPar2, dPar3, dAug, dRaise, dFor, dYes, dLc, dels, del, put, nth, startN, dFrz, dIx, dPart, dNoP, dSl, dApp, dPut, dM1, dFmt, dJs, dJoined, dIsi, dRg1, dRg2, dLsI, dTpI, dStI, dZip, dEnL, dLsRg1, dLsRg2, dNewK, dNewT, dOneT, dSetSort, dLsZip, dNewCan, oAdd, oSub, oMul, oDiv, oMod, oPow, oLt, oLe, oGt, oGe, oIs, oIsNot, oNeg, oIAdd, D.isN, bLen, bInt, bStr, bAbs, bBool, bList, bTuple, D.ty, D.isInt, D.isBool, D.isStr, D.isTup, D.isLst, List.map_cons, List.map_nil, List.length_cons, List.length_nil, List.replicate_succ, List.replicate_zero, List.cons_append, List.nil_append, Option.isSome_some, if_true, if_false, Bool.false_eq_true, reduceIte, Nat.reduceAdd, Nat.reduceSub, Bool.not_true, Bool.not_false, true_and, and_true]
      refine ⟨_, rfl, by simp; omega, lc_map (fun d => .bl (decide ((b : Int) ≤ d.iv) && decide (d.iv < (b : Int) + 7))) _ (fun d hd k hk => ?_) ?_⟩
      · obtain ⟨n, _, rfl⟩ := List.mem_map.mp hd
        simp only [dVar, dC, dOp, dUn, dTst, dAnd, dOr, dNot, dAndV, dOrV, dNotV, dIfE, dNil, dCons, dTup, dLst, dNew, dCall, dB, dChain, dNext, dSeq, dDrop, dRet, dRetN, dIf, dAsg, gN, gSeq, gT, dPar2, dPar3, dAug, dRaise, dFor, dYes, dLc, dels, del, put, nth, startN, dFrz, dIx, dPart, dNoP, dSl, dApp, dPut, dM1, dFmt, dJs, dJoined, dIsi, dRg1, dRg2, dLsI, dTpI, dStI, dZip, dEnL, dLsRg1, dLsRg2, dNewK, dNewT, dOneT, dSetSort, dLsZip, dNewCan, oAdd, oSub, oMul, oDiv, oMod, oPow, oLt, oLe, oGt, oGe, oIs, oIsNot, oNeg, oIAdd, D.isN, bLen, bInt, bStr, bAbs, bBool, bList, bTuple, D.ty, D.isInt, D.isBool, D.isStr, D.isTup, D.isLst, List.map_cons, List.map_nil, List.length_cons, List.length_nil, List.replicate_succ, List.replicate_zero, List.cons_append, List.nil_append, Option.isSome_some, if_true, if_false, Bool.false_eq_true, reduceIte, Nat.reduceAdd, Nat.reduceSub, Bool.not_true, Bool.not_false, true_and, and_true]
        have hk' : k (.bl (decide ((b : Int) ≤ n) && decide (n < (b : Int) + 7))) M' := hk
        cases hn : decide ((b : Int) ≤ n) with
        | true => rw [hn] at hk'; simp only [dVar, dC, dOp, dUn, dTst, dAnd, dOr, dNot, dAndV, dOrV, dNotV, dIfE, dNil, dCons, dTup, dLst, dNew, dCall, dB, dChain, dNext, dSeq, dDrop, dRet, dRetN, dIf, dAsg, gN, gSeq, gT, dPar2, dPar3, dAug, dRaise, dFor, dYes, dLc, dels, del, put, nth, startN, dFrz, dIx, dPart, dNoP, dSl, dApp, dPut, dM1, dFmt, dJs, dJoined, dIsi, dRg1, dRg2, dLsI, dTpI, dStI, dZip, dEnL, dLsRg1, dLsRg2, dNewK, dNewT, dOneT, dSetSort, dLsZip, dNewCan, oAdd, oSub, oMul, oDiv, oMod, oPow, oLt, oLe, oGt, oGe, oIs, oIsNot, oNeg, oIAdd, D.isN, bLen, bInt, bStr, bAbs, bBool, bList, bTuple, D.ty, D.isInt, D.isBool, D.isStr, D.isTup, D.isLst, List.map_cons, List.map_nil, List.length_cons, List.length_nil, List.replicate_succ, List.replicate_zero, List.cons_append, List.nil_append, Option.isSome_some, if_true, if_false, Bool.false_eq_true, reduceIte, Nat.reduceAdd, Nat.reduceSub, Bool.not_true, Bool.not_false, true_and, and_true]; exact hk'
        | false => rw [hn] at hk'; simp only [dVar, dC, dOp, dUn, dTst, dAnd, dOr, dNot, dAndV, dOrV, dNotV, dIfE, dNil, dCons, dTup, dLst, dNew, dCall, dB, dChain, dNext, dSeq, dDrop, dRet, dRetN, dIf, dAsg, gN, gSeq, gT, dPar2, dPar3, dAug, dRaise, dFor, dYes, dLc, dels, del, put, nth, startN, dFrz, dIx, dPart, dNoP, dSl, dApp, dPut, dM1, dFmt, dJs, dJoined, dIsi, dRg1, dRg2, dLsI, dTpI, dStI, dZip, dEnL, dLsRg1, dLsRg2, dNewK, dNewT, dOneT, dSetSort, dLsZip, dNewCan, oAdd, oSub, oMul, oDiv, oMod, oPow, oLt, oLe, oGt, oGe, oIs, oIsNot, oNeg, oIAdd, D.isN, bLen, bInt, bStr, bAbs, bBool, bList, bTuple, D.ty, D.isInt, D.isBool, D.isStr, D.isTup, D.isLst, List.map_cons, List.map_nil, List.length_cons, List.length_nil, List.replicate_succ, List.replicate_zero, List.cons_append, List.nil_append, Option.isSome_some, if_true, if_false, Bool.false_eq_true, reduceIte, Nat.reduceAdd, Nat.reduceSub, Bool.not_true, Bool.not_false, true_and, and_true]; exact hk'
      · simp only [bAny]
        refine ⟨(ns.map D.int).map fun d => decide ((b : Int) ≤ d.iv) && decide (d.iv < (b : Int) + 7), by simp only [List.map_map]; rfl, ?_⟩
        cases ha : ((ns.map D.int).map fun d => decide ((b : Int) ≤ d.iv) && decide (d.iv < (b : Int) + 7)).any id with
        | true => simp only [dVar, dC, dOp, dUn, dTst, dAnd, dOr, dNot, dAndV, dOrV, dNotV, dIfE, dNil, dCons, dTup, dLst, dNew, dCall, dB, dChain, dNext, dSeq, dDrop, dRet, dRetN, dIf, dAsg, gN, gSeq, gT, dPar2, dPar3, dAug, dRaise, dFor, dYes, dLc, dels, del, put, nth, startN, dFrz, dIx, dPart, dNoP, dSl, dApp, dPut, dM1, dFmt, dJs, dJoined, dIsi, dRg1, dRg2, dLsI, dTpI, dStI, dZip, dEnL, dLsRg1, dLsRg2, dNewK, dNewT, dOneT, dSetSort, dLsZip, dNewCan, oAdd, oSub, oMul, oDiv, oMod, oPow, oLt, oLe, oGt, oGe, oIs, oIsNot, oNeg, oIAdd, D.isN, bLen, bInt, bStr, bAbs, bBool, bList, bTuple, D.ty, D.isInt, D.isBool, D.isStr, D.isTup, D.isLst, List.map_cons, List.map_nil, List.length_cons, List.length_nil, List.replicate_succ, List.replicate_zero, List.cons_append, List.nil_append, Option.isSome_some, if_true, if_false, Bool.false_eq_true, reduceIte, Nat.reduceAdd, Nat.reduceSub, Bool.not_true, Bool.not_false, true_and, and_true, gSeq]; exact plain
        | false =>
          have free : ∀ n, n ∈ ns → ¬ ((b : Int) ≤ n ∧ n < (b : Int) + 7) := fun n hn ⟨z1, z2⟩ => by
            have := List.any_eq_false.mp ha (decide ((b : Int) ≤ n) && decide (n < (b : Int) + 7)) (List.mem_map.mpr ⟨.int n, List.mem_map.mpr ⟨n, hn, rfl⟩, rfl⟩)
            exact this (by rw [decide_eq_true z1, decide_eq_true z2]; rfl)
          simp only [dVar, dC, dOp, dUn, dTst, dAnd, dOr, dNot, dAndV, dOrV, dNotV, dIfE, dNil, dCons, dTup, dLst, dNew, dCall, dB, dChain, dNext, dSeq, dDrop, dRet, dRetN, dIf, dAsg, gN, gSeq, gT, dPar2, dPar3, dAug, dRaise, dFor, dYes, dLc, dels, del, put, nth, startN, dFrz, dIx, dPart, dNoP, dSl, dApp, dPut, dM1, dFmt, dJs, dJoined, dIsi, dRg1, dRg2, dLsI, dTpI, dStI, dZip, dEnL, dLsRg1, dLsRg2, dNewK, dNewT, dOneT, dSetSort, dLsZip, dNewCan, oAdd, oSub, oMul, oDiv, oMod, oPow, oLt, oLe, oGt, oGe, oIs, oIsNot, oNeg, oIAdd, D.isN, bLen, bInt, bStr, bAbs, bBool, bList, bTuple, D.ty, D.isInt, D.isBool, D.isStr, D.isTup, D.isLst, List.map_cons, List.map_nil, List.length_cons, List.length_nil, List.replicate_succ, List.replicate_zero, List.cons_append, List.nil_append, Option.isSome_some, if_true, if_false, Bool.false_eq_true, reduceIte, Nat.reduceAdd, Nat.reduceSub, Bool.not_true, Bool.not_false, true_and, and_true]
          refine ⟨_, rfl, by simp; omega, lc_pure (fun d => decide ((b : Int) + 7 ≤ d.iv)) (fun d => .int (d.iv - d.iv % 7)) _ _ (fun d hd k1 k2 h1 h2 => ?_) ?_⟩
          · obtain ⟨n, _, rfl⟩ := List.mem_map.mp hd
            have h1' : decide ((b : Int) + 7 ≤ n) = true → k1 (.int (n - n % 7)) M' := h1
            have h2' : decide ((b : Int) + 7 ≤ n) = false → k2 M' := h2
            simp only [dVar, dC, dOp, dUn, dTst, dAnd, dOr, dNot, dAndV, dOrV, dNotV, dIfE, dNil, dCons, dTup, dLst, dNew, dCall, dB, dChain, dNext, dSeq, dDrop, dRet, dRetN, dIf, dAsg, gN, gSeq, gT, dPar2, dPar3, dAug, dRaise, dFor, dYes, dLc, dels, del, put, nth, startN, dFrz, dIx, dPart, dNoP, dSl, dApp, dPut, dM1, dFmt, dJs, dJoined, dIsi, dRg1, dRg2, dLsI, dTpI, dStI, dZip, dEnL, dLsRg1, dLsRg2, dNewK, dNewT, dOneT, dSetSort, dLsZip, dNewCan, oAdd, oSub, oMul, oDiv, oMod, oPow, oLt, oLe, oGt, oGe, oIs, oIsNot, oNeg, oIAdd, D.isN, bLen, bInt, bStr, bAbs, bBool, bList, bTuple, D.ty, D.isInt, D.isBool, D.isStr, D.isTup, D.isLst, List.map_cons, List.map_nil, List.length_cons, List.length_nil, List.replicate_succ, List.replicate_zero, List.cons_append, List.nil_append, Option.isSome_some, if_true, if_false, Bool.false_eq_true, reduceIte, Nat.reduceAdd, Nat.reduceSub, Bool.not_true, Bool.not_false, true_and, and_true]
            cases hn : decide ((b : Int) + 7 ≤ n) with
            | true => simp only [dVar, dC, dOp, dUn, dTst, dAnd, dOr, dNot, dAndV, dOrV, dNotV, dIfE, dNil, dCons, dTup, dLst, dNew, dCall, dB, dChain, dNext, dSeq, dDrop, dRet, dRetN, dIf, dAsg, gN, gSeq, gT, dPar2, dPar3, dAug, dRaise, dFor, dYes, dLc, dels, del, put, nth, startN, dFrz, dIx, dPart, dNoP, dSl, dApp, dPut, dM1, dFmt, dJs, dJoined, dIsi, dRg1, dRg2, dLsI, dTpI, dStI, dZip, dEnL, dLsRg1, dLsRg2, dNewK, dNewT, dOneT, dSetSort, dLsZip, dNewCan, oAdd, oSub, oMul, oDiv, oMod, oPow, oLt, oLe, oGt, oGe, oIs, oIsNot, oNeg, oIAdd, D.isN, bLen, bInt, bStr, bAbs, bBool, bList, bTuple, D.ty, D.isInt, D.isBool, D.isStr, D.isTup, D.isLst, List.map_cons, List.map_nil, List.length_cons, List.length_nil, List.replicate_succ, List.replicate_zero, List.cons_append, List.nil_append, Option.isSome_some, if_true, if_false, Bool.false_eq_true, reduceIte, Nat.reduceAdd, Nat.reduceSub, Bool.not_true, Bool.not_false, true_and, and_true]; exact ⟨by decide, h1' hn⟩
            | false => simp only [dVar, dC, dOp, dUn, dTst, dAnd, dOr, dNot, dAndV, dOrV, dNotV, dIfE, dNil, dCons, dTup, dLst, dNew, dCall, dB, dChain, dNext, dSeq, dDrop, dRet, dRetN, dIf, dAsg, gN, gSeq, gT, dPar2, dPar3, dAug, dRaise, dFor, dYes, dLc, dels, del, put, nth, startN, dFrz, dIx, dPart, dNoP, dSl, dApp, dPut, dM1, dFmt, dJs, dJoined, dIsi, dRg1, dRg2, dLsI, dTpI, dStI, dZip, dEnL, dLsRg1, dLsRg2, dNewK, dNewT, dOneT, dSetSort, dLsZip, dNewCan, oAdd, oSub, oMul, oDiv, oMod, oPow, oLt, oLe, oGt, oGe, oIs, oIsNot, oNeg, oIAdd, D.isN, bLen, bInt, bStr, bAbs, bBool, bList, bTuple, D.ty, D.isInt, D.isBool, D.isStr, D.isTup, D.isLst, List.map_cons, List.map_nil, List.length_cons, List.length_nil, List.replicate_succ, List.replicate_zero, List.cons_append, List.nil_append, Option.isSome_some, if_true, if_false, Bool.false_eq_true, reduceIte, Nat.reduceAdd, Nat.reduceSub, Bool.not_true, Bool.not_false, true_and, and_true]; exact h2' hn
          · have em : ((ns.map D.int).filter fun d => decide ((b : Int) + 7 ≤ d.iv)).map (fun d => D.int (d.iv - d.iv % 7)) = ((ns.filter fun n => decide ((b : Int) + 7 ≤ n)).map fun n => n - n % 7).map D.int := by
              rw [List.filter_map, List.map_map, List.map_map]; rfl
            rw [List.nil_append, em]
            simp only [dVar, dC, dOp, dUn, dTst, dAnd, dOr, dNot, dAndV, dOrV, dNotV, dIfE, dNil, dCons, dTup, dLst, dNew, dCall, dB, dChain, dNext, dSeq, dDrop, dRet, dRetN, dIf, dAsg, gN, gSeq, gT, dPar2, dPar3, dAug, dRaise, dFor, dYes, dLc, dels, del, put, nth, startN, dFrz, dIx, dPart, dNoP, dSl, dApp, dPut, dM1, dFmt, dJs, dJoined, dIsi, dRg1, dRg2, dLsI, dTpI, dStI, dZip, dEnL, dLsRg1, dLsRg2, dNewK, dNewT, dOneT, dSetSort, dLsZip, dNewCan, oAdd, oSub, oMul, oDiv, oMod, oPow, oLt, oLe, oGt, oGe, oIs, oIsNot, oNeg, oIAdd, D.isN, bLen, bInt, bStr, bAbs, bBool, bList, bTuple, D.ty, D.isInt, D.isBool, D.isStr, D.isTup, D.isLst, List.map_cons, List.map_nil, List.length_cons, List.length_nil, List.replicate_succ, List.replicate_zero, List.cons_append, List.nil_append, Option.isSome_some, if_true, if_false, Bool.false_eq_true, reduceIte, Nat.reduceAdd, Nat.reduceSub, Bool.not_true, Bool.not_false, true_and, and_true, gSeq]
            have hl2 : (ns.filter fun n => decide ((b : Int) + 7 ≤ n)).length ≤ 20 := Nat.le_trans (List.length_filter_le _ _) hl
            refine ⟨by decide, by decide, by simp only [List.length_map]; omega, ?_⟩
            simp only [bMin, bMax]
            refine ⟨((ns.filter fun n => decide ((b : Int) + 7 ≤ n)).map fun n => n - n % 7) ++ [(g : Int) - g % 7], by rw [List.map_append]; rfl, by simp, fun mm hm1 hm2 => ?_⟩
            rw [max_if]
            -- mm: the least mark, no later than the goal's week
            have hmg : mm ≤ (g : Int) - g % 7 := hm2 _ (by simp)
            have hm7 : mm % 7 = 0 := by
              rcases List.mem_append.mp hm1 with z | z
              · obtain ⟨n, _, rfl⟩ := List.mem_map.mp z; omega
              · rw [List.mem_singleton.mp z]; omega
            have hmn : ∀ n, n ∈ ns → (b : Int) + 7 ≤ n → mm ≤ n := fun n hn z => by
              have := hm2 (n - n % 7) (List.mem_append_left _ (List.mem_map.mpr ⟨n, List.mem_filter.mpr ⟨hn, decide_eq_true z⟩, rfl⟩))
              omega
            have hnn : 0 ≤ max ((b : Int) + 7) mm := by omega
            obtain ⟨b', eb'⟩ : ∃ b' : Nat, (b' : Int) = max ((b : Int) + 7) mm := ⟨(max ((b : Int) + 7) mm).toNat, by omega⟩
            refine ⟨by decide, ?_⟩
            rw [← eb']
            refine fin b' _ _ _ (by omega) (by omega) (by omega) ?_
            obtain ⟨k, ek⟩ : ∃ k, b' = b + 7 * (k + 1) := ⟨(b' - b) / 7 - 1, by omega⟩
            have := wr_add h ns 0 b 0 (7 * (k + 1))
            rw [Nat.zero_add] at this
            have eb2 : wa h ns b' = wr h ns b (7 * (k + 1)) (wa h ns b) := by rw [ek]; exact this
            rw [eb2, wr_weeks h ns b _ he k fun j hj hin => ?_]
            · exact he.symm
            · by_cases hjb : (b : Int) + 7 ≤ ((b + j : Nat) : Int)
              · have := hmn _ hin hjb; omega
              · exact free _ hin ⟨by omega, by omega⟩
    · rw [decide_eq_false he]
      simp only [dVar, dC, dOp, dUn, dTst, dAnd, dOr, dNot, dAndV, dOrV, dNotV, dIfE, dNil, dCons, dTup, dLst, dNew, dCall, dB, dChain, dNext, dSeq, dDrop, dRet, dRetN, dIf, dAsg, gN, gSeq, gT, dPar2, dPar3, dAug, dRaise, dFor, dYes, dLc, dels, del, put, nth, startN, dFrz, dIx, dPart, dNoP, dSl, dApp, dPut, dM1, dFmt, dJs, dJoined, dIsi, dRg1, dRg2, dLsI, dTpI, dStI, dZip, dEnL, dLsRg1, dLsRg2, dNewK, dNewT, dOneT, dSetSort, dLsZip, dNewCan, oAdd, oSub, oMul, oDiv, oMod, oPow, oLt, oLe, oGt, oGe, oIs, oIsNot, oNeg, oIAdd, D.isN, bLen, bInt, bStr, bAbs, bBool, bList, bTuple, D.ty, D.isInt, D.isBool, D.isStr, D.isTup, D.isLst, List.map_cons, List.map_nil, List.length_cons, List.length_nil, List.replicate_succ, List.replicate_zero, List.cons_append, List.nil_append, Option.isSome_some, if_true, if_false, Bool.false_eq_true, reduceIte, Nat.reduceAdd, Nat.reduceSub, Bool.not_true, Bool.not_false, true_and, and_true, gSeq]
      exact plain
  · rw [decide_eq_false (show ¬ (b : Int) + 7 ≤ g by omega)]
    simp only [dVar, dC, dOp, dUn, dTst, dAnd, dOr, dNot, dAndV, dOrV, dNotV, dIfE, dNil, dCons, dTup, dLst, dNew, dCall, dB, dChain, dNext, dSeq, dDrop, dRet, dRetN, dIf, dAsg, gN, gSeq, gT, dPar2, dPar3, dAug, dRaise, dFor, dYes, dLc, dels, del, put, nth, startN, dFrz, dIx, dPart, dNoP, dSl, dApp, dPut, dM1, dFmt, dJs, dJoined, dIsi, dRg1, dRg2, dLsI, dTpI, dStI, dZip, dEnL, dLsRg1, dLsRg2, dNewK, dNewT, dOneT, dSetSort, dLsZip, dNewCan, oAdd, oSub, oMul, oDiv, oMod, oPow, oLt, oLe, oGt, oGe, oIs, oIsNot, oNeg, oIAdd, D.isN, bLen, bInt, bStr, bAbs, bBool, bList, bTuple, D.ty, D.isInt, D.isBool, D.isStr, D.isTup, D.isLst, List.map_cons, List.map_nil, List.length_cons, List.length_nil, List.replicate_succ, List.replicate_zero, List.cons_append, List.nil_append, Option.isSome_some, if_true, if_false, Bool.false_eq_true, reduceIte, Nat.reduceAdd, Nat.reduceSub, Bool.not_true, Bool.not_false, true_and, and_true]
    refine ⟨_, _, rfl, rfl, ?_⟩
    refine loop_inv (fun i ρ M'' => M'' = M' ∧ ∃ o, ρ = [some h.d, some (cal ns), some (.int (g : Int)), some (.int (b : Int)), some (.int (wr h ns b i (wa h ns b))), o5, o6, o7, o]) _ ⟨rfl, _, rfl⟩ ?_ ?_
    · rintro i d ρ M'' N' hd ⟨rfl, o, rfl⟩ hN'
      have hi : i < ((g : Int) - b).toNat := by
        have := (List.getElem?_eq_some_iff.mp hd).1
        rwa [rgD_length] at this
      rw [rgD_get hi] at hd
      cases hd
      simp only [dVar, dC, dOp, dUn, dTst, dAnd, dOr, dNot, dAndV, dOrV, dNotV, dIfE, dNil, dCons, dTup, dLst, dNew, dCall, dB, dChain, dNext, dSeq, dDrop, dRet, dRetN, dIf, dAsg, gN, gSeq, gT, dPar2, dPar3, dAug, dRaise, dFor, dYes, dLc, dels, del, put, nth, startN, dFrz, dIx, dPart, dNoP, dSl, dApp, dPut, dM1, dFmt, dJs, dJoined, dIsi, dRg1, dRg2, dLsI, dTpI, dStI, dZip, dEnL, dLsRg1, dLsRg2, dNewK, dNewT, dOneT, dSetSort, dLsZip, dNewCan, oAdd, oSub, oMul, oDiv, oMod, oPow, oLt, oLe, oGt, oGe, oIs, oIsNot, oNeg, oIAdd, D.isN, bLen, bInt, bStr, bAbs, bBool, bList, bTuple, D.ty, D.isInt, D.isBool, D.isStr, D.isTup, D.isLst, List.map_cons, List.map_nil, List.length_cons, List.length_nil, List.replicate_succ, List.replicate_zero, List.cons_append, List.nil_append, Option.isSome_some, if_true, if_false, Bool.false_eq_true, reduceIte, Nat.reduceAdd, Nat.reduceSub, Bool.not_true, Bool.not_false, true_and, and_true]
      rw [show (b : Int) + (i : Nat) = ((b + i : Nat) : Int) by omega]
      exact in_cal _ _ _ _ ⟨h, _, _, _, ok, rfl, hN' _ _ ⟨rfl, _, rfl⟩⟩
    · rintro ρ M'' ⟨rfl, o, rfl⟩
      rw [rgD_length]
      simp only [dVar, dC, dOp, dUn, dTst, dAnd, dOr, dNot, dAndV, dOrV, dNotV, dIfE, dNil, dCons, dTup, dLst, dNew, dCall, dB, dChain, dNext, dSeq, dDrop, dRet, dRetN, dIf, dAsg, gN, gSeq, gT, dPar2, dPar3, dAug, dRaise, dFor, dYes, dLc, dels, del, put, nth, startN, dFrz, dIx, dPart, dNoP, dSl, dApp, dPut, dM1, dFmt, dJs, dJoined, dIsi, dRg1, dRg2, dLsI, dTpI, dStI, dZip, dEnL, dLsRg1, dLsRg2, dNewK, dNewT, dOneT, dSetSort, dLsZip, dNewCan, oAdd, oSub, oMul, oDiv, oMod, oPow, oLt, oLe, oGt, oGe, oIs, oIsNot, oNeg, oIAdd, D.isN, bLen, bInt, bStr, bAbs, bBool, bList, bTuple, D.ty, D.isInt, D.isBool, D.isStr, D.isTup, D.isLst, List.map_cons, List.map_nil, List.length_cons, List.length_nil, List.replicate_succ, List.replicate_zero, List.cons_append, List.nil_append, Option.isSome_some, if_true, if_false, Bool.false_eq_true, reduceIte, Nat.reduceAdd, Nat.reduceSub, Bool.not_true, Bool.not_false, true_and, and_true]
      have := wr_add h ns 0 b 0 ((g : Int) - b).toNat
      rw [Nat.zero_add, show b + ((g : Int) - b).toNat = g by omega] at this
      unfold wa at q ⊢
      rw [this] at q
      exact fg_self q
end Dl
namespace Dl
open PySem
/-! # typed houses and calendars are such -/
structure CalOk (ns : List Int) : Prop where
  len : ns.length ≤ 20
  asc : ascI ns = true
  inb : ns.all (fun i => decide (0 ≤ i) && decide (i ≤ great)) = true
theorem fine_int (i : Int) : (D.int i).fine := ⟨rfl, fun z e => by cases e⟩
theorem fine_wk {l : List Nat} (h : l.length ≤ 100000) : (D.str (wk l)).fine := ⟨rfl, fun z e => by cases e; rw [wk_length]; exact h⟩
theorem Hs.Ok.fine2 {h : Hs} (ok : h.Ok) : h.d.fine2 := ⟨⟨rfl, fun z e => by cases e⟩, fun ds e => by
  cases e
  refine ⟨by simp, fun d hd => ?_⟩
  have h1 := ok.aw.len
  have h2 := ok.ar.len
  simp only [List.mem_cons, List.not_mem_nil, or_false] at hd
  rcases hd with rfl | rfl | rfl
  · exact fine_wk (by omega)
  · exact fine_wk (by omega)
  · exact fine_int _⟩
theorem ascB_wk : ∀ {l : List Nat}, l.Pairwise (· < ·) → ascB (l.map fun d => 48 + d) = true
  | [], _ => rfl
  | [a], _ => rfl
  | a :: b :: l, p => by
    obtain ⟨p1, p2⟩ := List.pairwise_cons.mp p
    have h1 := p1 b (List.mem_cons_self ..)
    have h2 := ascB_wk p2
    simp only [List.map_cons, ascB] at h2 ⊢
    rw [h2, decide_eq_true (by omega)]; rfl
theorem wkZ_wk {l : List Nat} (a : Asc l) : wkZ (wk l) = true := by
  have e : (wk l).cps.toList = l.map fun d => 48 + d := by simp [wk]
  unfold wkZ
  rw [e, ascB_wk a.1, Bool.and_true, List.all_eq_true]
  intro c hc
  obtain ⟨d, hd, rfl⟩ := List.mem_map.mp hc
  have := a.2 d hd
  have ef : figs = [48, 49, 50, 51, 52, 53, 54] := by decide
  rw [ef]
  apply decide_eq_true
  simp only [List.mem_cons, List.not_mem_nil, or_false]
  omega
theorem Hs.Ok.houseB {h : Hs} (ok : h.Ok) : h.d.houseB = true := by
  simp only [D.houseB, Hs.d]
  rw [wkZ_wk ok.aw, wkZ_wk ok.ar, wk_length, wk_length]
  have h1 := ok.s1; have h3 := ok.s3
  have w0 := List.length_pos_iff.mpr ok.w0
  have r0 := List.length_pos_iff.mpr ok.r0
  rw [decide_eq_true (by omega), decide_eq_true (by omega), decide_eq_false (by omega), decide_eq_false (by omega)]
  have hf := ok.fit
  rw [decide_eq_true (show (h.work.length : Int) ≤ (h.speed : Int) * (h.run.length : Int) by exact_mod_cast hf)]
  rfl
theorem CalOk.fine2 {ns : List Int} (c : CalOk ns) : (cal ns).fine2 := ⟨⟨rfl, fun z e => by cases e⟩, fun ds e => by
  cases e
  refine ⟨by rw [List.length_map]; have := c.len; omega, fun d hd => ?_⟩
  obtain ⟨n, _, rfl⟩ := List.mem_map.mp hd
  exact fine_int _⟩
theorem CalOk.calB {ns : List Int} (c : CalOk ns) : (cal ns).calB = true := by
  simp only [D.calB, cal, ints_map, List.length_map, c.asc, c.inb, decide_eq_true c.len]; rfl
theorem needH {h : Hs} (ok : h.Ok) {M : Mem} {Q : DQ} {R : Exn → Mem → Prop} (q : Q .non M) : S_need_house [h.d] M Q R := ⟨_, ok.fine2, rfl, fun _ => q, fun e => by rw [ok.houseB] at e; cases e⟩
theorem needC {ns : List Int} (ok : CalOk ns) {M : Mem} {Q : DQ} {R : Exn → Mem → Prop} (q : Q .non M) : S_need_calendar [cal ns] M Q R := ⟨_, ok.fine2, rfl, fun _ => q, fun e => by rw [ok.calB] at e; cases e⟩
theorem inB_ok {i lo hi : Int} (h1 : lo ≤ i) (h2 : i ≤ hi) : (D.int i).inB lo hi = true := by simp only [D.inB, decide_eq_true h1, decide_eq_true h2]; rfl
theorem needD {i : Int} (h1 : 0 ≤ i) (h2 : i ≤ great) {M : Mem} {Q : DQ} {R : Exn → Mem → Prop} (q : Q .non M) : S_need_day [.int i] M Q R := ⟨_, rfl, rfl, fun _ => q, fun e => by rw [inB_ok h1 h2] at e; cases e⟩
theorem needN {i lo hi : Int} (h1 : lo ≤ i) (h2 : i ≤ hi) {M : Mem} {Q : DQ} {R : Exn → Mem → Prop} (q : Q .non M) : S_need_number [.int i, .int lo, .int hi] M Q R := ⟨_, _, _, rfl, rfl, fun _ => q, fun e => by rw [inB_ok h1 h2] at e; cases e⟩
/-! ### round_on, day_of -/
def roundOn (h : Hs) (day : Int) : D := if bo h day > 0 then .int (rb h day) else .non
def S_round_on : DSp := fun ds M Q R => ∃ (h : Hs) (day : Int), h.Ok ∧ 0 ≤ day ∧ day ≤ great ∧ ds = [h.d, .int day] ∧ Q (roundOn h day) M
def t_round_on : DTS := dSeq (dDrop (dCall S_need_house (dCons (dVar 0) (dNil)))) (dSeq (dDrop (dCall S_need_day (dCons (dVar 1) (dNil)))) (dRet (dIfE (dTst (dOp oGt (dCall S_begins_on (dCons (dVar 0) (dCons (dVar 1) (dNil)))) (dC (.int 0)))) (dCall S_rounds_before (dCons (dVar 0) (dCons (dVar 1) (dNil)))) (dC .non))))
theorem kp_round_on : Keeps S_round_on 2 t_round_on := by
  rintro ds M Q R ⟨h, day, ok, h1, h2, rfl, q⟩
  simp only [t_round_on, dVar, dC, dOp, dUn, dTst, dAnd, dOr, dNot, dAndV, dOrV, dNotV, dIfE, dNil, dCons, dTup, dLst, dNew, dCall, dB, dChain, dNext, dSeq, dDrop, dRet, dRetN, dIf, dAsg, gN, gSeq, gT, dPar2, dPar3, dAug, dRaise, dFor, dYes, dLc, dels, del, put, nth, startN, dFrz, dIx, dPart, dNoP, dSl, dApp, dPut, dM1, dFmt, dJs, dJoined, dIsi, dRg1, dRg2, dLsI, dTpI, dStI, dZip, dEnL, dLsRg1, dLsRg2, dNewK, dNewT, dOneT, dSetSort, dLsZip, dNewCan, oAdd, oSub, oMul, oDiv, oMod, oPow, oLt, oLe, oGt, oGe, oIs, oIsNot, oNeg, oIAdd, D.isN, bLen, bInt, bStr, bAbs, bBool, bList, bTuple, D.ty, D.isInt, D.isBool, D.isStr, D.isTup, D.isLst, List.map_cons, List.map_nil, List.length_cons, List.length_nil, List.replicate_succ, List.replicate_zero, List.cons_append, List.nil_append, Option.isSome_some, if_true, if_false, Bool.false_eq_true, reduceIte, Nat.reduceAdd, Nat.reduceSub, Bool.not_true, Bool.not_false, true_and, and_true]
  refine needH ok (needD h1 h2 ⟨h, day, ok, rfl, ?_⟩)
  dsimp only
  unfold roundOn at q
  by_cases hb : bo h day > 0
  · rw [if_pos hb] at q; rw [decide_eq_true (show (0 : Int) < bo h day from hb)]; simp only [dVar, dC, dOp, dUn, dTst, dAnd, dOr, dNot, dAndV, dOrV, dNotV, dIfE, dNil, dCons, dTup, dLst, dNew, dCall, dB, dChain, dNext, dSeq, dDrop, dRet, dRetN, dIf, dAsg, gN, gSeq, gT, dPar2, dPar3, dAug, dRaise, dFor, dYes, dLc, dels, del, put, nth, startN, dFrz, dIx, dPart, dNoP, dSl, dApp, dPut, dM1, dFmt, dJs, dJoined, dIsi, dRg1, dRg2, dLsI, dTpI, dStI, dZip, dEnL, dLsRg1, dLsRg2, dNewK, dNewT, dOneT, dSetSort, dLsZip, dNewCan, oAdd, oSub, oMul, oDiv, oMod, oPow, oLt, oLe, oGt, oGe, oIs, oIsNot, oNeg, oIAdd, D.isN, bLen, bInt, bStr, bAbs, bBool, bList, bTuple, D.ty, D.isInt, D.isBool, D.isStr, D.isTup, D.isLst, List.map_cons, List.map_nil, List.length_cons, List.length_nil, List.replicate_succ, List.replicate_zero, List.cons_append, List.nil_append, Option.isSome_some, if_true, if_false, Bool.false_eq_true, reduceIte, Nat.reduceAdd, Nat.reduceSub, Bool.not_true, Bool.not_false, true_and, and_true]; exact ⟨h, day, ok, rfl, fg_self q⟩
  · rw [if_neg hb] at q; rw [decide_eq_false (show ¬ (0 : Int) < bo h day from hb)]; simp only [dVar, dC, dOp, dUn, dTst, dAnd, dOr, dNot, dAndV, dOrV, dNotV, dIfE, dNil, dCons, dTup, dLst, dNew, dCall, dB, dChain, dNext, dSeq, dDrop, dRet, dRetN, dIf, dAsg, gN, gSeq, gT, dPar2, dPar3, dAug, dRaise, dFor, dYes, dLc, dels, del, put, nth, startN, dFrz, dIx, dPart, dNoP, dSl, dApp, dPut, dM1, dFmt, dJs, dJoined, dIsi, dRg1, dRg2, dLsI, dTpI, dStI, dZip, dEnL, dLsRg1, dLsRg2, dNewK, dNewT, dOneT, dSetSort, dLsZip, dNewCan, oAdd, oSub, oMul, oDiv, oMod, oPow, oLt, oLe, oGt, oGe, oIs, oIsNot, oNeg, oIAdd, D.isN, bLen, bInt, bStr, bAbs, bBool, bList, bTuple, D.ty, D.isInt, D.isBool, D.isStr, D.isTup, D.isLst, List.map_cons, List.map_nil, List.length_cons, List.length_nil, List.replicate_succ, List.replicate_zero, List.cons_append, List.nil_append, Option.isSome_some, if_true, if_false, Bool.false_eq_true, reduceIte, Nat.reduceAdd, Nat.reduceSub, Bool.not_true, Bool.not_false, true_and, and_true]; exact fg_self q
def S_day_of : DSp := fun ds M Q R => ∃ (h : Hs) (n : Int), h.Ok ∧ 0 ≤ n ∧ n ≤ great ∧ ds = [h.d, .int n] ∧ Q (.int (dayBy h n)) M
def t_day_of : DTS := dSeq (dDrop (dCall S_need_house (dCons (dVar 0) (dNil)))) (dSeq (dDrop (dCall S_need_number (dCons (dVar 1) (dCons (dC (.int 0)) (dCons (dC (.int 1000000000000000000000000000000)) (dNil)))))) (dRet (dCall S_day_by (dCons (dVar 0) (dCons (dVar 1) (dNil))))))
theorem kp_day_of : Keeps S_day_of 2 t_day_of := by
  rintro ds M Q R ⟨h, n, ok, h1, h2, rfl, q⟩
  simp only [t_day_of, dVar, dC, dOp, dUn, dTst, dAnd, dOr, dNot, dAndV, dOrV, dNotV, dIfE, dNil, dCons, dTup, dLst, dNew, dCall, dB, dChain, dNext, dSeq, dDrop, dRet, dRetN, dIf, dAsg, gN, gSeq, gT, dPar2, dPar3, dAug, dRaise, dFor, dYes, dLc, dels, del, put, nth, startN, dFrz, dIx, dPart, dNoP, dSl, dApp, dPut, dM1, dFmt, dJs, dJoined, dIsi, dRg1, dRg2, dLsI, dTpI, dStI, dZip, dEnL, dLsRg1, dLsRg2, dNewK, dNewT, dOneT, dSetSort, dLsZip, dNewCan, oAdd, oSub, oMul, oDiv, oMod, oPow, oLt, oLe, oGt, oGe, oIs, oIsNot, oNeg, oIAdd, D.isN, bLen, bInt, bStr, bAbs, bBool, bList, bTuple, D.ty, D.isInt, D.isBool, D.isStr, D.isTup, D.isLst, List.map_cons, List.map_nil, List.length_cons, List.length_nil, List.replicate_succ, List.replicate_zero, List.cons_append, List.nil_append, Option.isSome_some, if_true, if_false, Bool.false_eq_true, reduceIte, Nat.reduceAdd, Nat.reduceSub, Bool.not_true, Bool.not_false, true_and, and_true]
  exact needH ok (needN h1 h2 ⟨h, n, ok, rfl, fg_self q⟩)
/-! ### waiting, done -/
def wat (h : Hs) (ns : List Int) (n : Nat) : Int := wb h n (wa h ns n) (decide ((n : Int) ∈ ns))
def S_waits_at : DSp := fun ds M Q R => ∃ (h : Hs) (ns : List Int) (n : Nat), h.Ok ∧ ns.length ≤ 20 ∧ ds = [h.d, cal ns, .int (n : Int)] ∧ Q (.int (wat h ns n)) M
def t_waits_at : DTS := dRet (dCall S_waits_behind (dCons (dVar 0) (dCons (dVar 2) (dCons (dCall S_waits_ahead (dCons (dVar 0) (dCons (dVar 1) (dCons (dVar 2) (dNil))))) (dCons (dOp (qIn false) (dVar 2) (dVar 1)) (dNil))))))
theorem kp_waits_at : Keeps S_waits_at 3 t_waits_at := by
  rintro ds M Q R ⟨h, ns, n, ok, hl, rfl, q⟩
  simp only [t_waits_at, dVar, dC, dOp, dUn, dTst, dAnd, dOr, dNot, dAndV, dOrV, dNotV, dIfE, dNil, dCons, dTup, dLst, dNew, dCall, dB, dChain, dNext, dSeq, dDrop, dRet, dRetN, dIf, dAsg, gN, gSeq, gT, dPar2, dPar3, dAug, dRaise, dFor, dYes, dLc, dels, del, put, nth, startN, dFrz, dIx, dPart, dNoP, dSl, dApp, dPut, dM1, dFmt, dJs, dJoined, dIsi, dRg1, dRg2, dLsI, dTpI, dStI, dZip, dEnL, dLsRg1, dLsRg2, dNewK, dNewT, dOneT, dSetSort, dLsZip, dNewCan, oAdd, oSub, oMul, oDiv, oMod, oPow, oLt, oLe, oGt, oGe, oIs, oIsNot, oNeg, oIAdd, D.isN, bLen, bInt, bStr, bAbs, bBool, bList, bTuple, D.ty, D.isInt, D.isBool, D.isStr, D.isTup, D.isLst, List.map_cons, List.map_nil, List.length_cons, List.length_nil, List.replicate_succ, List.replicate_zero, List.cons_append, List.nil_append, Option.isSome_some, if_true, if_false, Bool.false_eq_true, reduceIte, Nat.reduceAdd, Nat.reduceSub, Bool.not_true, Bool.not_false, true_and, and_true]
  exact ⟨h, ns, n, ok, hl, rfl, in_cal _ _ _ _ ⟨h, _, _, _, ok, rfl, fg_self q⟩⟩
def dby (h : Hs) (ns : List Int) (n : Nat) : Int := rb h ((n : Int) + 1) - wat h ns n
def S_done_by : DSp := fun ds M Q R => ∃ (h : Hs) (ns : List Int) (n : Nat), h.Ok ∧ ns.length ≤ 20 ∧ ds = [h.d, cal ns, .int (n : Int)] ∧ Q (.int (dby h ns n)) M
def t_done_by : DTS := dRet (dOp oSub (dCall S_rounds_before (dCons (dVar 0) (dCons (dOp oAdd (dVar 2) (dC (.int 1))) (dNil)))) (dCall S_waits_at (dCons (dVar 0) (dCons (dVar 1) (dCons (dVar 2) (dNil))))))
theorem kp_done_by : Keeps S_done_by 3 t_done_by := by
  rintro ds M Q R ⟨h, ns, n, ok, hl, rfl, q⟩
  simp only [t_done_by, dVar, dC, dOp, dUn, dTst, dAnd, dOr, dNot, dAndV, dOrV, dNotV, dIfE, dNil, dCons, dTup, dLst, dNew, dCall, dB, dChain, dNext, dSeq, dDrop, dRet, dRetN, dIf, dAsg, gN, gSeq, gT, dPar2, dPar3, dAug, dRaise, dFor, dYes, dLc, dels, del, put, nth, startN, dFrz, dIx, dPart, dNoP, dSl, dApp, dPut, dM1, dFmt, dJs, dJoined, dIsi, dRg1, dRg2, dLsI, dTpI, dStI, dZip, dEnL, dLsRg1, dLsRg2, dNewK, dNewT, dOneT, dSetSort, dLsZip, dNewCan, oAdd, oSub, oMul, oDiv, oMod, oPow, oLt, oLe, oGt, oGe, oIs, oIsNot, oNeg, oIAdd, D.isN, bLen, bInt, bStr, bAbs, bBool, bList, bTuple, D.ty, D.isInt, D.isBool, D.isStr, D.isTup, D.isLst, List.map_cons, List.map_nil, List.length_cons, List.length_nil, List.replicate_succ, List.replicate_zero, List.cons_append, List.nil_append, Option.isSome_some, if_true, if_false, Bool.false_eq_true, reduceIte, Nat.reduceAdd, Nat.reduceSub, Bool.not_true, Bool.not_false, true_and, and_true]
  exact ⟨h, _, ok, rfl, h, ns, n, ok, hl, rfl, fg_self q⟩
/-- what can be done in k days from a on -/
def dsum (h : Hs) (ns : List Int) (a : Nat) : Nat → Int
  | 0 => 0
  | k + 1 => dsum h ns a k + mdn h ((a + k : Nat) : Int) (decide (((a + k : Nat) : Int) ∈ ns))
structure DoneAt (h : Hs) (ns : List Int) (a k : Nat) : Prop where
  at_ : wa h ns a < dsum h ns a (k + 1)
  no : ∀ j, j < k → dsum h ns a (j + 1) ≤ wa h ns a
theorem dayBy_nn {h : Hs} {n : Int} (ok : h.Ok) (hn : 0 ≤ n) : 0 ≤ dayBy h n := by
  unfold dayBy
  have := Int.ediv_nonneg hn (show (0 : Int) ≤ h.work.length by omega)
  omega
def S_done_on_by : DSp := fun ds M Q R => ∃ (h : Hs) (ns : List Int) (n a k : Nat), h.Ok ∧ ns.length ≤ 20 ∧ ds = [h.d, cal ns, .int (n : Int)] ∧ dayBy h n = a ∧ DoneAt h ns a k ∧ Q (.int ((a + k : Nat) : Int)) M
def t_done_on_by : DTS := dSeq (dAsg (dCall S_day_by (dCons (dVar 0) (dCons (dVar 2) (dNil)))) (gN 3)) (dSeq (dAsg (dOp oSub (dCall S_waits_ahead (dCons (dVar 0) (dCons (dVar 1) (dCons (dVar 3) (dNil))))) (dCall S_most_done (dCons (dVar 0) (dCons (dVar 3) (dCons (dOp (qIn false) (dVar 3) (dVar 1)) (dNil)))))) (gN 4)) (dSeq (dWhile (dTst (dOp oGe (dVar 4) (dC (.int 0)))) (dSeq (dAug 3 oIAdd (dC (.int 1))) (dAug 4 oSub (dCall S_most_done (dCons (dVar 0) (dCons (dVar 3) (dCons (dOp (qIn false) (dVar 3) (dVar 1)) (dNil)))))))) (dRet (dVar 3))))
theorem kp_done_on_by : Keeps S_done_on_by 5 t_done_on_by := by
  rintro ds M Q R ⟨h, ns, n, a, k, ok, hl, rfl, ha, hd, q⟩
  simp only [t_done_on_by, dVar, dC, dOp, dUn, dTst, dAnd, dOr, dNot, dAndV, dOrV, dNotV, dIfE, dNil, dCons, dTup, dLst, dNew, dCall, dB, dChain, dNext, dSeq, dDrop, dRet, dRetN, dIf, dAsg, gN, gSeq, gT, dPar2, dPar3, dAug, dRaise, dFor, dYes, dLc, dels, del, put, nth, startN, dFrz, dIx, dPart, dNoP, dSl, dApp, dPut, dM1, dFmt, dJs, dJoined, dIsi, dRg1, dRg2, dLsI, dTpI, dStI, dZip, dEnL, dLsRg1, dLsRg2, dNewK, dNewT, dOneT, dSetSort, dLsZip, dNewCan, oAdd, oSub, oMul, oDiv, oMod, oPow, oLt, oLe, oGt, oGe, oIs, oIsNot, oNeg, oIAdd, D.isN, bLen, bInt, bStr, bAbs, bBool, bList, bTuple, D.ty, D.isInt, D.isBool, D.isStr, D.isTup, D.isLst, List.map_cons, List.map_nil, List.length_cons, List.length_nil, List.replicate_succ, List.replicate_zero, List.cons_append, List.nil_append, Option.isSome_some, if_true, if_false, Bool.false_eq_true, reduceIte, Nat.reduceAdd, Nat.reduceSub, Bool.not_true, Bool.not_false, true_and, and_true]
  refine ⟨h, _, ok, rfl, ?_⟩
  rw [ha]
  refine ⟨h, ns, a, ok, hl, rfl, in_cal _ _ _ _ ⟨h, _, _, ok, rfl, ?_⟩⟩
  have e1 : dsum h ns a 1 = mdn h (a : Int) (decide ((a : Int) ∈ ns)) := by show 0 + _ = _; rw [Int.zero_add]; rfl
  refine while_inv (fun m ρ M' => M' = M ∧ ∃ j, j ≤ k ∧ m = k - j ∧ ρ = [some h.d, some (cal ns), some (.int (n : Int)), some (.int ((a + j : Nat) : Int)), some (.int (wa h ns a - dsum h ns a (j + 1)))]) (m := k) ⟨rfl, 0, Nat.zero_le _, rfl, by rw [e1]; rfl⟩ ?_
  rintro m ρ M' N ⟨rfl, j, hj, rfl, rfl⟩ hN
  simp only [dVar, dC, dOp, dUn, dTst, dAnd, dOr, dNot, dAndV, dOrV, dNotV, dIfE, dNil, dCons, dTup, dLst, dNew, dCall, dB, dChain, dNext, dSeq, dDrop, dRet, dRetN, dIf, dAsg, gN, gSeq, gT, dPar2, dPar3, dAug, dRaise, dFor, dYes, dLc, dels, del, put, nth, startN, dFrz, dIx, dPart, dNoP, dSl, dApp, dPut, dM1, dFmt, dJs, dJoined, dIsi, dRg1, dRg2, dLsI, dTpI, dStI, dZip, dEnL, dLsRg1, dLsRg2, dNewK, dNewT, dOneT, dSetSort, dLsZip, dNewCan, oAdd, oSub, oMul, oDiv, oMod, oPow, oLt, oLe, oGt, oGe, oIs, oIsNot, oNeg, oIAdd, D.isN, bLen, bInt, bStr, bAbs, bBool, bList, bTuple, D.ty, D.isInt, D.isBool, D.isStr, D.isTup, D.isLst, List.map_cons, List.map_nil, List.length_cons, List.length_nil, List.replicate_succ, List.replicate_zero, List.cons_append, List.nil_append, Option.isSome_some, if_true, if_false, Bool.false_eq_true, reduceIte, Nat.reduceAdd, Nat.reduceSub, Bool.not_true, Bool.not_false, true_and, and_true]
  by_cases hjk : j = k
  · subst hjk
    have := hd.at_
    rw [decide_eq_false (by omega)]
    simp only [dVar, dC, dOp, dUn, dTst, dAnd, dOr, dNot, dAndV, dOrV, dNotV, dIfE, dNil, dCons, dTup, dLst, dNew, dCall, dB, dChain, dNext, dSeq, dDrop, dRet, dRetN, dIf, dAsg, gN, gSeq, gT, dPar2, dPar3, dAug, dRaise, dFor, dYes, dLc, dels, del, put, nth, startN, dFrz, dIx, dPart, dNoP, dSl, dApp, dPut, dM1, dFmt, dJs, dJoined, dIsi, dRg1, dRg2, dLsI, dTpI, dStI, dZip, dEnL, dLsRg1, dLsRg2, dNewK, dNewT, dOneT, dSetSort, dLsZip, dNewCan, oAdd, oSub, oMul, oDiv, oMod, oPow, oLt, oLe, oGt, oGe, oIs, oIsNot, oNeg, oIAdd, D.isN, bLen, bInt, bStr, bAbs, bBool, bList, bTuple, D.ty, D.isInt, D.isBool, D.isStr, D.isTup, D.isLst, List.map_cons, List.map_nil, List.length_cons, List.length_nil, List.replicate_succ, List.replicate_zero, List.cons_append, List.nil_append, Option.isSome_some, if_true, if_false, Bool.false_eq_true, reduceIte, Nat.reduceAdd, Nat.reduceSub, Bool.not_true, Bool.not_false, true_and, and_true]
    exact fg_self q
  · have := hd.no j (by omega)
    rw [decide_eq_true (by omega)]
    simp only [dVar, dC, dOp, dUn, dTst, dAnd, dOr, dNot, dAndV, dOrV, dNotV, dIfE, dNil, dCons, dTup, dLst, dNew, dCall, dB, dChain, dNext, dSeq, dDrop, dRet, dRetN, dIf, dAsg, gN, gSeq, gT, dPar2, dPar3, dAug, dRaise, dFor, dYes, dLc, dels, del, put, nth, startN, dFrz, dIx, dPart, dNoP, dSl, dApp, dPut, dM1, dFmt, dJs, dJoined, dIsi, dRg1, dRg2, dLsI, dTpI, dStI, dZip, dEnL, dLsRg1, dLsRg2, dNewK, dNewT, dOneT, dSetSort, dLsZip, dNewCan, oAdd, oSub, oMul, oDiv, oMod, oPow, oLt, oLe, oGt, oGe, oIs, oIsNot, oNeg, oIAdd, D.isN, bLen, bInt, bStr, bAbs, bBool, bList, bTuple, D.ty, D.isInt, D.isBool, D.isStr, D.isTup, D.isLst, List.map_cons, List.map_nil, List.length_cons, List.length_nil, List.replicate_succ, List.replicate_zero, List.cons_append, List.nil_append, Option.isSome_some, if_true, if_false, Bool.false_eq_true, reduceIte, Nat.reduceAdd, Nat.reduceSub, Bool.not_true, Bool.not_false, true_and, and_true]
    rw [show ((a + j : Nat) : Int) + 1 = ((a + (j + 1) : Nat) : Int) by omega]
    refine in_cal _ _ _ _ ⟨h, _, _, ok, rfl, ?_⟩
    refine hN (k - (j + 1)) _ _ (by omega) ⟨rfl, j + 1, by omega, rfl, ?_⟩
    rw [show wa h ns a - dsum h ns a (j + 1 + 1) = wa h ns a - dsum h ns a (j + 1) - mdn h ((a + (j + 1) : Nat) : Int) (decide (((a + (j + 1) : Nat) : Int) ∈ ns)) by rw [show dsum h ns a (j + 1 + 1) = dsum h ns a (j + 1) + mdn h ((a + (j + 1) : Nat) : Int) (decide (((a + (j + 1) : Nat) : Int) ∈ ns)) from rfl]; omega]
def S_done_on : DSp := fun ds M Q R => ∃ (h : Hs) (ns : List Int) (n a k : Nat), h.Ok ∧ CalOk ns ∧ (n : Int) ≤ great ∧ ds = [h.d, cal ns, .int (n : Int)] ∧ dayBy h n = a ∧ DoneAt h ns a k ∧ Q (.int ((a + k : Nat) : Int)) M
def t_done_on : DTS := dSeq (dDrop (dCall S_need_house (dCons (dVar 0) (dNil)))) (dSeq (dDrop (dCall S_need_calendar (dCons (dVar 1) (dNil)))) (dSeq (dDrop (dCall S_need_number (dCons (dVar 2) (dCons (dC (.int 0)) (dCons (dC (.int 1000000000000000000000000000000)) (dNil)))))) (dRet (dCall S_done_on_by (dCons (dVar 0) (dCons (dVar 1) (dCons (dVar 2) (dNil))))))))
theorem kp_done_on : Keeps S_done_on 3 t_done_on := by
  rintro ds M Q R ⟨h, ns, n, a, k, ok, hc, hn, rfl, ha, hd, q⟩
  simp only [t_done_on, dVar, dC, dOp, dUn, dTst, dAnd, dOr, dNot, dAndV, dOrV, dNotV, dIfE, dNil, dCons, dTup, dLst, dNew, dCall, dB, dChain, dNext, dSeq, dDrop, dRet, dRetN, dIf, dAsg, gN, gSeq, gT, dPar2, dPar3, dAug, dRaise, dFor, dYes, dLc, dels, del, put, nth, startN, dFrz, dIx, dPart, dNoP, dSl, dApp, dPut, dM1, dFmt, dJs, dJoined, dIsi, dRg1, dRg2, dLsI, dTpI, dStI, dZip, dEnL, dLsRg1, dLsRg2, dNewK, dNewT, dOneT, dSetSort, dLsZip, dNewCan, oAdd, oSub, oMul, oDiv, oMod, oPow, oLt, oLe, oGt, oGe, oIs, oIsNot, oNeg, oIAdd, D.isN, bLen, bInt, bStr, bAbs, bBool, bList, bTuple, D.ty, D.isInt, D.isBool, D.isStr, D.isTup, D.isLst, List.map_cons, List.map_nil, List.length_cons, List.length_nil, List.replicate_succ, List.replicate_zero, List.cons_append, List.nil_append, Option.isSome_some, if_true, if_false, Bool.false_eq_true, reduceIte, Nat.reduceAdd, Nat.reduceSub, Bool.not_true, Bool.not_false, true_and, and_true]
  exact needH ok (needC hc (needN (by omega) hn ⟨h, ns, n, a, k, ok, hc.len, rfl, ha, hd, fg_self q⟩))
def S_done_upto : DSp := fun ds M Q R => ∃ (h : Hs) (ns : List Int) (n : Nat), h.Ok ∧ CalOk ns ∧ (n : Int) ≤ great ∧ ds = [h.d, cal ns, .int (n : Int)] ∧ Q (.int (dby h ns n)) M
def t_done_upto : DTS := dSeq (dDrop (dCall S_need_house (dCons (dVar 0) (dNil)))) (dSeq (dDrop (dCall S_need_calendar (dCons (dVar 1) (dNil)))) (dSeq (dDrop (dCall S_need_day (dCons (dVar 2) (dNil)))) (dRet (dCall S_done_by (dCons (dVar 0) (dCons (dVar 1) (dCons (dVar 2) (dNil))))))))
theorem kp_done_upto : Keeps S_done_upto 3 t_done_upto := by
  rintro ds M Q R ⟨h, ns, n, ok, hc, hn, rfl, q⟩
  simp only [t_done_upto, dVar, dC, dOp, dUn, dTst, dAnd, dOr, dNot, dAndV, dOrV, dNotV, dIfE, dNil, dCons, dTup, dLst, dNew, dCall, dB, dChain, dNext, dSeq, dDrop, dRet, dRetN, dIf, dAsg, gN, gSeq, gT, dPar2, dPar3, dAug, dRaise, dFor, dYes, dLc, dels, del, put, nth, startN, dFrz, dIx, dPart, dNoP, dSl, dApp, dPut, dM1, dFmt, dJs, dJoined, dIsi, dRg1, dRg2, dLsI, dTpI, dStI, dZip, dEnL, dLsRg1, dLsRg2, dNewK, dNewT, dOneT, dSetSort, dLsZip, dNewCan, oAdd, oSub, oMul, oDiv, oMod, oPow, oLt, oLe, oGt, oGe, oIs, oIsNot, oNeg, oIAdd, D.isN, bLen, bInt, bStr, bAbs, bBool, bList, bTuple, D.ty, D.isInt, D.isBool, D.isStr, D.isTup, D.isLst, List.map_cons, List.map_nil, List.length_cons, List.length_nil, List.replicate_succ, List.replicate_zero, List.cons_append, List.nil_append, Option.isSome_some, if_true, if_false, Bool.false_eq_true, reduceIte, Nat.reduceAdd, Nat.reduceSub, Bool.not_true, Bool.not_false, true_and, and_true]
  exact needH ok (needC hc (needD (by omega) hn ⟨h, ns, n, ok, hc.len, rfl, fg_self q⟩))
def S_waiting : DSp := fun ds M Q R => ∃ (h : Hs) (ns : List Int) (n : Nat), h.Ok ∧ CalOk ns ∧ (n : Int) ≤ great ∧ ds = [h.d, cal ns, .int (n : Int)] ∧ Q (.int (wat h ns n)) M
def t_waiting : DTS := dSeq (dDrop (dCall S_need_house (dCons (dVar 0) (dNil)))) (dSeq (dDrop (dCall S_need_calendar (dCons (dVar 1) (dNil)))) (dSeq (dDrop (dCall S_need_day (dCons (dVar 2) (dNil)))) (dRet (dCall S_waits_at (dCons (dVar 0) (dCons (dVar 1) (dCons (dVar 2) (dNil))))))))
theorem kp_waiting : Keeps S_waiting 3 t_waiting := by
  rintro ds M Q R ⟨h, ns, n, ok, hc, hn, rfl, q⟩
  simp only [t_waiting, dVar, dC, dOp, dUn, dTst, dAnd, dOr, dNot, dAndV, dOrV, dNotV, dIfE, dNil, dCons, dTup, dLst, dNew, dCall, dB, dChain, dNext, dSeq, dDrop, dRet, dRetN, dIf, dAsg, gN, gSeq, gT, dPar2, dPar3, dAug, dRaise, dFor, dYes, dLc, dels, del, put, nth, startN, dFrz, dIx, dPart, dNoP, dSl, dApp, dPut, dM1, dFmt, dJs, dJoined, dIsi, dRg1, dRg2, dLsI, dTpI, dStI, dZip, dEnL, dLsRg1, dLsRg2, dNewK, dNewT, dOneT, dSetSort, dLsZip, dNewCan, oAdd, oSub, oMul, oDiv, oMod, oPow, oLt, oLe, oGt, oGe, oIs, oIsNot, oNeg, oIAdd, D.isN, bLen, bInt, bStr, bAbs, bBool, bList, bTuple, D.ty, D.isInt, D.isBool, D.isStr, D.isTup, D.isLst, List.map_cons, List.map_nil, List.length_cons, List.length_nil, List.replicate_succ, List.replicate_zero, List.cons_append, List.nil_append, Option.isSome_some, if_true, if_false, Bool.false_eq_true, reduceIte, Nat.reduceAdd, Nat.reduceSub, Bool.not_true, Bool.not_false, true_and, and_true]
  exact needH ok (needC hc (needD (by omega) hn ⟨h, ns, n, ok, hc.len, rfl, fg_self q⟩))
def doneAt (h : Hs) (ns : List Int) (n : Nat) : D := .lst (rgD (rb h n - wa h ns n) (dby h ns n - (rb h n - wa h ns n)).toNat)
def S_done_at : DSp := fun ds M Q R => ∃ (h : Hs) (ns : List Int) (n : Nat), h.Ok ∧ CalOk ns ∧ (n : Int) ≤ great ∧ (dby h ns n - (rb h n - wa h ns n)).toNat ≤ 100000 ∧ ds = [h.d, cal ns, .int (n : Int)] ∧ Q (doneAt h ns n) M
def t_done_at : DTS := dSeq (dDrop (dCall S_need_house (dCons (dVar 0) (dNil)))) (dSeq (dDrop (dCall S_need_calendar (dCons (dVar 1) (dNil)))) (dSeq (dDrop (dCall S_need_day (dCons (dVar 2) (dNil)))) (dSeq (dAsg (dOp oSub (dCall S_rounds_before (dCons (dVar 0) (dCons (dVar 2) (dNil)))) (dCall S_waits_ahead (dCons (dVar 0) (dCons (dVar 1) (dCons (dVar 2) (dNil)))))) (gN 3)) (dRet (dLsRg2 (dVar 3) (dCall S_done_by (dCons (dVar 0) (dCons (dVar 1) (dCons (dVar 2) (dNil))))))))))
theorem kp_done_at : Keeps S_done_at 4 t_done_at := by
  rintro ds M Q R ⟨h, ns, n, ok, hc, hn, hs, rfl, q⟩
  simp only [t_done_at, dVar, dC, dOp, dUn, dTst, dAnd, dOr, dNot, dAndV, dOrV, dNotV, dIfE, dNil, dCons, dTup, dLst, dNew, dCall, dB, dChain, dNext, dSeq, dDrop, dRet, dRetN, dIf, dAsg, gN, gSeq, gT, dPar2, dPar3, dAug, dRaise, dFor, dYes, dLc, dels, del, put, nth, startN, dFrz, dIx, dPart, dNoP, dSl, dApp, dPut, dM1, dFmt, dJs, dJoined, dIsi, dRg1, dRg2, dLsI, dTpI, dStI, dZip, dEnL, dLsRg1, dLsRg2, dNewK, dNewT, dOneT, dSetSort, dLsZip, dNewCan, oAdd, oSub, oMul, oDiv, oMod, oPow, oLt, oLe, oGt, oGe, oIs, oIsNot, oNeg, oIAdd, D.isN, bLen, bInt, bStr, bAbs, bBool, bList, bTuple, D.ty, D.isInt, D.isBool, D.isStr, D.isTup, D.isLst, List.map_cons, List.map_nil, List.length_cons, List.length_nil, List.replicate_succ, List.replicate_zero, List.cons_append, List.nil_append, Option.isSome_some, if_true, if_false, Bool.false_eq_true, reduceIte, Nat.reduceAdd, Nat.reduceSub, Bool.not_true, Bool.not_false, true_and, and_true]
  refine needH ok (needC hc (needD (by omega) hn ⟨h, _, ok, rfl, h, ns, n, ok, hc.len, rfl, h, ns, n, ok, hc.len, rfl, ?_⟩))
  exact ⟨_, _, rfl, rfl, hs, fg_self q⟩
end Dl
namespace Dl
open PySem
/-! # harming -/
abbrev P2 := Int × Int
def pD (p : P2) : D := .tup [.int p.1, .int p.2]
def pK (p : P2) : List L2.Key := [.inl p.1, .inl p.2]
def leP (p q : P2) : Bool := decide (p.1 < q.1 ∨ (p.1 = q.1 ∧ p.2 ≤ q.2))
def ins (p : P2) : List P2 → List P2
  | [] => [p]
  | q :: l => if leP p q then p :: q :: l else q :: ins p l
def isort : List P2 → List P2
  | [] => []
  | p :: l => ins p (isort l)
theorem ins_perm (p : P2) : ∀ l, (ins p l).Perm (p :: l)
  | [] => .refl _
  | q :: l => by
    unfold ins
    by_cases h : leP p q = true
    · rw [if_pos h]
    · rw [if_neg h]; exact ((ins_perm p l).cons q).trans (.swap ..)
theorem isort_perm : ∀ l, (isort l).Perm l
  | [] => .refl _
  | p :: l => (ins_perm p _).trans ((isort_perm l).cons p)
theorem leP_total (p q : P2) : leP p q = true ∨ leP q p = true := by
  unfold leP; simp only [decide_eq_true_eq]; omega
theorem leP_trans {p q r : P2} (h1 : leP p q = true) (h2 : leP q r = true) : leP p r = true := by
  unfold leP at *; simp only [decide_eq_true_eq] at *; omega
theorem leP_anti {p q : P2} (h1 : leP p q = true) (h2 : leP q p = true) : p = q := by
  unfold leP at *; simp only [decide_eq_true_eq] at *
  obtain ⟨a, b⟩ := p; obtain ⟨c, d⟩ := q
  simp only at h1 h2
  have e1 : a = c := by omega
  have e2 : b = d := by omega
  rw [e1, e2]
theorem ins_sorted (p : P2) : ∀ {l : List P2}, l.Pairwise (fun a b => leP a b = true) → (ins p l).Pairwise (fun a b => leP a b = true)
  | [], _ => by simp [ins]
  | q :: l, h => by
    obtain ⟨h1, h2⟩ := List.pairwise_cons.mp h
    unfold ins
    by_cases e : leP p q = true
    · rw [if_pos e]
      refine List.pairwise_cons.mpr ⟨fun x hx => ?_, h⟩
      rcases List.mem_cons.mp hx with z | z
      · rw [z]; exact e
      · exact leP_trans e (h1 x z)
    · rw [if_neg e]
      refine List.pairwise_cons.mpr ⟨fun x hx => ?_, ins_sorted p h2⟩
      rcases List.mem_cons.mp ((ins_perm p l).mem_iff.mp hx) with z | z
      · rw [z]; exact (leP_total p q).resolve_left e
      · exact h1 x z
theorem isort_sorted : ∀ l, (isort l).Pairwise (fun a b => leP a b = true)
  | [] => .nil
  | p :: l => ins_sorted p (isort_sorted l)
theorem sorted_eq {l m : List P2} (h1 : l.Pairwise (fun a b => leP a b = true)) (h2 : m.Pairwise (fun a b => leP a b = true)) (h : l.Perm m) : l = m := h.eq_of_pairwise (fun _ _ _ _ a b => leP_anti a b) h1 h2
theorem leS_pD (p q : P2) : D.leS (pD p) (pD q) = leP p q := by
  have := congrFun (congrFun (PySem.W.dataLe_ii (β := P2) (fun p => p.1) (fun p => p.2)) p) q
  rw [PySem.W.dataLe_eq] at this
  exact this
theorem sortD_pD (l : List P2) : sortD (l.map pD) = (isort l).map pD := by
  unfold sortD
  rw [← List.map_mergeSort (r := leP) (f := pD) (fun a _ b _ => (leS_pD a b).symm)]
  congr 1
  exact sorted_eq (List.pairwise_mergeSort (le := leP) (fun a b c h1 h2 => leP_trans h1 h2) (fun a b => by rcases leP_total a b with h | h <;> simp [h]) l) (isort_sorted l) ((List.mergeSort_perm l leP).trans (isort_perm l).symm)
theorem ok_pD (p : P2) : (pD p).ok := rfl
theorem sortok_pD (l : List P2) : SortOk (l.map pD) := by
  refine ⟨fun d hd => ?_, ?_, ?_⟩
  · obtain ⟨p, _, rfl⟩ := List.mem_map.mp hd; exact ok_pD p
  · intro d hd d' hd'
    obtain ⟨_, hx, rfl⟩ := List.mem_map.mp hd
    obtain ⟨_, hy, rfl⟩ := List.mem_map.mp hd'
    obtain ⟨p, _, rfl⟩ := List.mem_map.mp hx
    obtain ⟨q, _, rfl⟩ := List.mem_map.mp hy
    rfl
  · refine .inl fun d hd => ?_
    obtain ⟨_, hx, rfl⟩ := List.mem_map.mp hd
    obtain ⟨p, _, rfl⟩ := List.mem_map.mp hx
    exact ⟨_, _, rfl⟩
theorem keyT_pD (p : P2) : (pD p).keyT = some (pK p) := rfl
/-! dicts of pairs -/
def kvOf (l : List P2) : List (List L2.Key × D) := l.map fun p => (pK p, .bl true)
def kput (l : List P2) (p : P2) : List P2 := if p ∈ l then l else l ++ [p]
theorem pK_inj {p q : P2} (h : pK p = pK q) : p = q := by
  obtain ⟨a, b⟩ := p; obtain ⟨c, d⟩ := q
  simp only [pK, List.cons.injEq, Sum.inl.injEq, and_true] at h
  rw [h.1, h.2]
theorem any_kv (l : List P2) (p : P2) : ((kvOf l).any fun kv => decide (kv.1 = pK p)) = decide (p ∈ l) := by
  unfold kvOf
  rw [List.any_map]
  induction l with
  | nil => rfl
  | cons a l ih =>
    rw [List.any_cons, ih]
    by_cases h : a = p
    · subst h; simp
    · have : ¬ pK a = pK p := fun e => h (pK_inj e)
      simp only [Function.comp, decide_eq_false this, Bool.false_or, List.mem_cons]
      apply decide_eq_decide.mpr
      simp [Ne.symm h]
theorem putD_kv (l : List P2) (p : P2) : putD (kvOf l) (pK p) (.bl true) = kvOf (kput l p) := by
  unfold putD kput
  rw [any_kv]
  by_cases h : p ∈ l
  · rw [if_pos (decide_eq_true h), if_pos h]
    unfold kvOf
    rw [List.map_map]
    apply List.map_congr_left
    intro a _
    simp only [Function.comp]
    split <;> rfl
  · rw [if_neg (by rw [decide_eq_false h]; exact Bool.false_ne_true), if_neg h]
    unfold kvOf
    rw [List.map_append]; rfl
theorem look_kv (l : List P2) (p : P2) : (lookD (kvOf l) (pK p)).isSome = decide (p ∈ l) := by
  unfold lookD
  rw [Option.isSome_map, ← any_kv, Bool.eq_iff_iff, List.find?_isSome, List.any_eq_true]
theorem kv_keys (l : List P2) : (kvOf l).map (fun kv => D.tup (kv.1.map kD)) = l.map pD := by
  unfold kvOf; rw [List.map_map]; rfl
/-! all_quiet -/
def qstep (h : Hs) (p : P2) : P2 := ((p.1 + 1) % 7, wb h p.1 p.2 false)
def qone (h : Hs) (s : List P2 × List P2) (p : P2) : List P2 × List P2 := if qstep h p ∈ s.1 then s else (s.1 ++ [qstep h p], s.2 ++ [qstep h p])
def qrow (h : Hs) (l : List P2) (s : List P2 × List P2) : List P2 × List P2 := l.foldl (qone h) s
def quiet (h : Hs) : Nat → List P2 → List P2 → Option (List P2)
  | 0, known, line => if line = [] then some known else none
  | n + 1, known, line => if line = [] then some known else if (qrow h line (known, [])).1.length ≤ 50000 then quiet h n (qrow h line (known, [])).1 (qrow h line (known, [])).2 else none
theorem qone_len (h : Hs) (s : List P2 × List P2) (p : P2) : s.1.length ≤ (qone h s p).1.length ∧ (qone h s p).1.length + s.2.length = s.1.length + (qone h s p).2.length := by
  unfold qone
  split
  · exact ⟨Nat.le_refl _, rfl⟩
  · simp only [List.length_append, List.length_singleton]; omega
theorem qrow_len (h : Hs) : ∀ (l : List P2) (s : List P2 × List P2), s.1.length ≤ (qrow h l s).1.length ∧ (qrow h l s).1.length + s.2.length = s.1.length + (qrow h l s).2.length
  | [], s => ⟨Nat.le_refl _, rfl⟩
  | p :: l, s => by
    have h1 := qone_len h s p
    have h2 := qrow_len h l (qone h s p)
    unfold qrow at h2 ⊢
    rw [List.foldl_cons]
    omega
theorem qrow_take (h : Hs) {l : List P2} {i : Nat} {p : P2} (e : l[i]? = some p) (s : List P2 × List P2) : qrow h (l.take (i + 1)) s = qone h (qrow h (l.take i) s) p := by
  unfold qrow
  rw [List.take_succ, e, List.foldl_append]; rfl
def S_all_quiet : DSp := fun ds M Q R => ∃ (h : Hs) (st : List P2) (n : Nat) (known : List P2), h.Ok ∧ st.length ≤ 50000 ∧ ds = [h.d, .lst (st.map pD)] ∧ quiet h n (st.foldl kput []) st = some known ∧ Q (.lst ((isort known).map pD)) M
def t_all_quiet : DTS := dSeq (dPar2 2 3 (dCons (dB bList (dCons (dVar 1) (dNil))) (dCons (dNewT) (dNil)))) (dSeq (dFor (dLsI (dVar 1)) (gN 4) (dPut (dVar 3) (dVar 4) (dC (.bl true)))) (dSeq (dWhile (dTst (dOp oNe (dVar 2) (dLst (dNil)))) (dSeq (dAsg (dNew (dNil)) (gN 5)) (dSeq (dFor (dLsI (dVar 2)) (gT [gN 6, gN 7]) (dSeq (dAug 7 oIAdd (dCall S_begins_on (dCons (dVar 0) (dCons (dVar 6) (dNil))))) (dSeq (dAsg (dTup (dCons (dOp oMod (dOp oAdd (dVar 6) (dC (.int 1))) (dC (.int 7))) (dCons (dOp oSub (dVar 7) (dB bMin (dCons (dVar 7) (dCons (dCall S_most_done (dCons (dVar 0) (dCons (dVar 6) (dCons (dC (.bl false)) (dNil))))) (dNil))))) (dNil)))) (gN 8)) (dIf (dTst (dOp (qIn true) (dVar 8) (dVar 3))) (dSeq (dPut (dVar 3) (dVar 8) (dC (.bl true))) (dDrop (dApp (dVar 5) (dVar 8)))) (dNext))))) (dAsg (dFrz (dVar 5)) (gN 2))))) (dRet (dB bSortK (dCons (dVar 3) dNil)))))
theorem mget_self {p : Nat} {o : MO} {M : Mem} : mget ((p, o) :: M) p = some o := mget_cons_self p o M
theorem kput_len (l : List P2) (p : P2) : (kput l p).length ≤ l.length + 1 := by
  unfold kput; split <;> simp
theorem ne_pD (l : List P2) : (D.lst (l.map pD)).eqv (.lst []) = decide (l = []) := by
  cases l with
  | nil => rfl
  | cons a l => simp [D.eqv, D.py, D.pyL, PyData.eqv, PyData.eqvAll]
theorem ok_lst {ds : List D} (h : ∀ d ∈ ds, d.py.canLay0 = true ∧ d.py.depth ≤ 60) : (D.lst ds).ok := by
  have : ∀ ds : List D, (∀ d ∈ ds, d.py.canLay0 = true ∧ d.py.depth ≤ 60) → PyData.canLayAll0 (D.pyL ds) = true ∧ PyData.depthAll (D.pyL ds) ≤ 60 := by
    intro ds
    induction ds with
    | nil => intro _; exact ⟨rfl, Nat.zero_le _⟩
    | cons d ds ih =>
      intro h
      obtain ⟨h1, h2⟩ := h d (List.mem_cons_self ..)
      obtain ⟨h3, h4⟩ := ih fun e he => h e (List.mem_cons_of_mem _ he)
      simp only [D.pyL, PyData.canLayAll0, PyData.depthAll]
      exact ⟨by rw [h1, h3]; rfl, by omega⟩
  obtain ⟨h1, h2⟩ := this ds h
  unfold D.ok SeqAt.shaped
  simp only [D.py, PyData.canLay0, PyData.depth]
  rw [h1, decide_eq_true (by omega)]; rfl
theorem ok_lpD (l : List P2) : (D.lst (l.map pD)).ok := ok_lst fun d hd => by
  obtain ⟨p, _, rfl⟩ := List.mem_map.mp hd
  exact ⟨rfl, by show 1 ≤ 60; decide⟩
theorem ok_nil : (D.lst []).ok := rfl
theorem foldl_kput_len : ∀ (l s : List P2), (l.foldl kput s).length ≤ s.length + l.length
  | [], s => Nat.le_refl _
  | p :: l, s => by
    rw [List.foldl_cons, List.length_cons]
    have h1 := kput_len s p
    have h2 := foldl_kput_len l (kput s p)
    omega
theorem kp_all_quiet : Keeps S_all_quiet 9 t_all_quiet := by
  rintro ds M Q R ⟨h, st, n, known, ok, hst, rfl, hq, q⟩
  simp only [t_all_quiet, dVar, dC, dOp, dUn, dTst, dAnd, dOr, dNot, dAndV, dOrV, dNotV, dIfE, dNil, dCons, dTup, dLst, dNew, dCall, dB, dChain, dNext, dSeq, dDrop, dRet, dRetN, dIf, dAsg, gN, gSeq, gT, dPar2, dPar3, dAug, dRaise, dFor, dYes, dLc, dels, del, put, nth, startN, dFrz, dIx, dPart, dNoP, dSl, dApp, dPut, dM1, dFmt, dJs, dJoined, dIsi, dRg1, dRg2, dLsI, dTpI, dStI, dZip, dEnL, dLsRg1, dLsRg2, dNewK, dNewT, dOneT, dSetSort, dLsZip, dNewCan, oAdd, oSub, oMul, oDiv, oMod, oPow, oLt, oLe, oGt, oGe, oIs, oIsNot, oNeg, oIAdd, D.isN, bLen, bInt, bStr, bAbs, bBool, bList, bTuple, D.ty, D.isInt, D.isBool, D.isStr, D.isTup, D.isLst, List.map_cons, List.map_nil, List.length_cons, List.length_nil, List.replicate_succ, List.replicate_zero, List.cons_append, List.nil_append, Option.isSome_some, if_true, if_false, Bool.false_eq_true, reduceIte, Nat.reduceAdd, Nat.reduceSub, Bool.not_true, Bool.not_false, true_and, and_true]
  intro p hp
  refine ⟨_, rfl, ?_⟩
  -- the stands at first
  refine loop_inv (fun i ρ M' => ∃ o, ρ = [some h.d, some (.lst (st.map pD)), some (.lst (st.map pD)), some (.obj p), o, none, none, none, none] ∧ M' = (p, .dT (kvOf ((st.take i).foldl kput []))) :: M) _ ⟨_, rfl, rfl⟩ ?_ ?_
  · rintro i d ρ M' N hd ⟨o, rfl, rfl⟩ hN
    rw [List.getElem?_map] at hd
    cases e : st[i]? with
    | none => rw [e] at hd; cases hd
    | some x =>
      rw [e] at hd
      cases hd
      have hi := (List.getElem?_eq_some_iff.mp e).1
      simp only [dVar, dC, dOp, dUn, dTst, dAnd, dOr, dNot, dAndV, dOrV, dNotV, dIfE, dNil, dCons, dTup, dLst, dNew, dCall, dB, dChain, dNext, dSeq, dDrop, dRet, dRetN, dIf, dAsg, gN, gSeq, gT, dPar2, dPar3, dAug, dRaise, dFor, dYes, dLc, dels, del, put, nth, startN, dFrz, dIx, dPart, dNoP, dSl, dApp, dPut, dM1, dFmt, dJs, dJoined, dIsi, dRg1, dRg2, dLsI, dTpI, dStI, dZip, dEnL, dLsRg1, dLsRg2, dNewK, dNewT, dOneT, dSetSort, dLsZip, dNewCan, oAdd, oSub, oMul, oDiv, oMod, oPow, oLt, oLe, oGt, oGe, oIs, oIsNot, oNeg, oIAdd, D.isN, bLen, bInt, bStr, bAbs, bBool, bList, bTuple, D.ty, D.isInt, D.isBool, D.isStr, D.isTup, D.isLst, List.map_cons, List.map_nil, List.length_cons, List.length_nil, List.replicate_succ, List.replicate_zero, List.cons_append, List.nil_append, Option.isSome_some, if_true, if_false, Bool.false_eq_true, reduceIte, Nat.reduceAdd, Nat.reduceSub, Bool.not_true, Bool.not_false, true_and, and_true, qPut, mget_self]
      have hlen : (kvOf ((st.take i).foldl kput [])).length ≤ 50000 := by
        unfold kvOf; rw [List.length_map]
        have := foldl_kput_len (st.take i) []
        rw [List.length_take, List.length_nil] at this
        omega
      refine ⟨_, keyT_pD x, by omega, hN _ _ ⟨_, rfl, ?_⟩⟩
      rw [mset_cons_self, putD_kv, List.take_succ, e, List.foldl_append]
      rfl
  · rintro ρ M' ⟨o, rfl, rfl⟩
    rw [List.length_map, List.take_length]
    simp only [dVar, dC, dOp, dUn, dTst, dAnd, dOr, dNot, dAndV, dOrV, dNotV, dIfE, dNil, dCons, dTup, dLst, dNew, dCall, dB, dChain, dNext, dSeq, dDrop, dRet, dRetN, dIf, dAsg, gN, gSeq, gT, dPar2, dPar3, dAug, dRaise, dFor, dYes, dLc, dels, del, put, nth, startN, dFrz, dIx, dPart, dNoP, dSl, dApp, dPut, dM1, dFmt, dJs, dJoined, dIsi, dRg1, dRg2, dLsI, dTpI, dStI, dZip, dEnL, dLsRg1, dLsRg2, dNewK, dNewT, dOneT, dSetSort, dLsZip, dNewCan, oAdd, oSub, oMul, oDiv, oMod, oPow, oLt, oLe, oGt, oGe, oIs, oIsNot, oNeg, oIAdd, D.isN, bLen, bInt, bStr, bAbs, bBool, bList, bTuple, D.ty, D.isInt, D.isBool, D.isStr, D.isTup, D.isLst, List.map_cons, List.map_nil, List.length_cons, List.length_nil, List.replicate_succ, List.replicate_zero, List.cons_append, List.nil_append, Option.isSome_some, if_true, if_false, Bool.false_eq_true, reduceIte, Nat.reduceAdd, Nat.reduceSub, Bool.not_true, Bool.not_false, true_and, and_true]
    -- line by line
    refine while_inv (fun m ρ M' => ∃ (kn line : List P2) (o4 o5 o6 o7 o8 : Option D), kn.length ≤ 50000 ∧ quiet h m kn line = some known ∧ ρ = [some h.d, some (.lst (st.map pD)), some (.lst (line.map pD)), some (.obj p), o4, o5, o6, o7, o8] ∧ M' = (p, .dT (kvOf kn)) :: M) (m := n) ⟨_, st, o, none, none, none, none, ?_, hq, rfl, rfl⟩ ?_
    · have := foldl_kput_len st []
      rw [List.length_nil] at this
      omega
    rintro m ρ M' N ⟨kn, line, o4, o5, o6, o7, o8, hkn, hqq, rfl, rfl⟩ hN
    simp only [dVar, dC, dOp, dUn, dTst, dAnd, dOr, dNot, dAndV, dOrV, dNotV, dIfE, dNil, dCons, dTup, dLst, dNew, dCall, dB, dChain, dNext, dSeq, dDrop, dRet, dRetN, dIf, dAsg, gN, gSeq, gT, dPar2, dPar3, dAug, dRaise, dFor, dYes, dLc, dels, del, put, nth, startN, dFrz, dIx, dPart, dNoP, dSl, dApp, dPut, dM1, dFmt, dJs, dJoined, dIsi, dRg1, dRg2, dLsI, dTpI, dStI, dZip, dEnL, dLsRg1, dLsRg2, dNewK, dNewT, dOneT, dSetSort, dLsZip, dNewCan, oAdd, oSub, oMul, oDiv, oMod, oPow, oLt, oLe, oGt, oGe, oIs, oIsNot, oNeg, oIAdd, D.isN, bLen, bInt, bStr, bAbs, bBool, bList, bTuple, D.ty, D.isInt, D.isBool, D.isStr, D.isTup, D.isLst, List.map_cons, List.map_nil, List.length_cons, List.length_nil, List.replicate_succ, List.replicate_zero, List.cons_append, List.nil_append, Option.isSome_some, if_true, if_false, Bool.false_eq_true, reduceIte, Nat.reduceAdd, Nat.reduceSub, Bool.not_true, Bool.not_false, true_and, and_true]
    refine ⟨by decide, ok_lpD line, ok_nil, ?_⟩
    rw [ne_pD]
    by_cases hl : line = []
    · subst hl
      have e : kn = known := by
        cases m <;> (simp only [quiet, if_true] at hqq; exact Option.some.inj hqq)
      subst e
      simp only [dVar, dC, dOp, dUn, dTst, dAnd, dOr, dNot, dAndV, dOrV, dNotV, dIfE, dNil, dCons, dTup, dLst, dNew, dCall, dB, dChain, dNext, dSeq, dDrop, dRet, dRetN, dIf, dAsg, gN, gSeq, gT, dPar2, dPar3, dAug, dRaise, dFor, dYes, dLc, dels, del, put, nth, startN, dFrz, dIx, dPart, dNoP, dSl, dApp, dPut, dM1, dFmt, dJs, dJoined, dIsi, dRg1, dRg2, dLsI, dTpI, dStI, dZip, dEnL, dLsRg1, dLsRg2, dNewK, dNewT, dOneT, dSetSort, dLsZip, dNewCan, oAdd, oSub, oMul, oDiv, oMod, oPow, oLt, oLe, oGt, oGe, oIs, oIsNot, oNeg, oIAdd, D.isN, bLen, bInt, bStr, bAbs, bBool, bList, bTuple, D.ty, D.isInt, D.isBool, D.isStr, D.isTup, D.isLst, List.map_cons, List.map_nil, List.length_cons, List.length_nil, List.replicate_succ, List.replicate_zero, List.cons_append, List.nil_append, Option.isSome_some, if_true, if_false, Bool.false_eq_true, reduceIte, Nat.reduceAdd, Nat.reduceSub, Bool.not_true, Bool.not_false, true_and, and_true, bSortK, decide_true]
      refine ⟨kvOf kn, mget_self, by rw [kv_keys]; exact sortok_pD kn, ?_⟩
      rw [kv_keys, sortD_pD]
      exact fg_drop (fg_self q)
    · rw [decide_eq_false hl]
      cases m with
      | zero => simp only [quiet, if_neg hl] at hqq; cases hqq
      | succ m =>
        simp only [quiet, if_neg hl] at hqq
        by_cases hb : (qrow h line (kn, [])).1.length ≤ 50000
        · rw [if_pos hb] at hqq
          simp only [dVar, dC, dOp, dUn, dTst, dAnd, dOr, dNot, dAndV, dOrV, dNotV, dIfE, dNil, dCons, dTup, dLst, dNew, dCall, dB, dChain, dNext, dSeq, dDrop, dRet, dRetN, dIf, dAsg, gN, gSeq, gT, dPar2, dPar3, dAug, dRaise, dFor, dYes, dLc, dels, del, put, nth, startN, dFrz, dIx, dPart, dNoP, dSl, dApp, dPut, dM1, dFmt, dJs, dJoined, dIsi, dRg1, dRg2, dLsI, dTpI, dStI, dZip, dEnL, dLsRg1, dLsRg2, dNewK, dNewT, dOneT, dSetSort, dLsZip, dNewCan, oAdd, oSub, oMul, oDiv, oMod, oPow, oLt, oLe, oGt, oGe, oIs, oIsNot, oNeg, oIAdd, D.isN, bLen, bInt, bStr, bAbs, bBool, bList, bTuple, D.ty, D.isInt, D.isBool, D.isStr, D.isTup, D.isLst, List.map_cons, List.map_nil, List.length_cons, List.length_nil, List.replicate_succ, List.replicate_zero, List.cons_append, List.nil_append, Option.isSome_some, if_true, if_false, Bool.false_eq_true, reduceIte, Nat.reduceAdd, Nat.reduceSub, Bool.not_true, Bool.not_false, true_and, and_true]
          refine ⟨by decide, fun p2 hp2 => ⟨_, rfl, ?_⟩⟩
          have hne : p2 ≠ p := fun z => hp2 (by rw [z]; exact List.mem_cons_self ..)
          refine loop_inv (fun i ρ M' => ∃ o6 o7 o8, ρ = [some h.d, some (.lst (st.map pD)), some (.lst (line.map pD)), some (.obj p), o4, some (.obj p2), o6, o7, o8] ∧ M' = (p2, .lst ((qrow h (line.take i) (kn, [])).2.map pD)) :: (p, .dT (kvOf (qrow h (line.take i) (kn, [])).1)) :: M) _ ⟨_, _, _, rfl, rfl⟩ ?_ ?_
          · rintro i d ρ M' N' hd ⟨o6, o7, o8, rfl, rfl⟩ hN'
            rw [List.getElem?_map] at hd
            cases e : line[i]? with
            | none => rw [e] at hd; cases hd
            | some x =>
              rw [e] at hd
              cases hd
              obtain ⟨a, b⟩ := x
              simp only [dVar, dC, dOp, dUn, dTst, dAnd, dOr, dNot, dAndV, dOrV, dNotV, dIfE, dNil, dCons, dTup, dLst, dNew, dCall, dB, dChain, dNext, dSeq, dDrop, dRet, dRetN, dIf, dAsg, gN, gSeq, gT, dPar2, dPar3, dAug, dRaise, dFor, dYes, dLc, dels, del, put, nth, startN, dFrz, dIx, dPart, dNoP, dSl, dApp, dPut, dM1, dFmt, dJs, dJoined, dIsi, dRg1, dRg2, dLsI, dTpI, dStI, dZip, dEnL, dLsRg1, dLsRg2, dNewK, dNewT, dOneT, dSetSort, dLsZip, dNewCan, oAdd, oSub, oMul, oDiv, oMod, oPow, oLt, oLe, oGt, oGe, oIs, oIsNot, oNeg, oIAdd, D.isN, bLen, bInt, bStr, bAbs, bBool, bList, bTuple, D.ty, D.isInt, D.isBool, D.isStr, D.isTup, D.isLst, List.map_cons, List.map_nil, List.length_cons, List.length_nil, List.replicate_succ, List.replicate_zero, List.cons_append, List.nil_append, Option.isSome_some, if_true, if_false, Bool.false_eq_true, reduceIte, Nat.reduceAdd, Nat.reduceSub, Bool.not_true, Bool.not_false, true_and, and_true, pD, gSeq]
              refine ⟨h, a, ok, rfl, ⟨by decide, h, a, false, ok, rfl, ?_⟩⟩
              simp only [bMin]
              rw [min_if]
              refine ⟨by decide, ?_⟩
              have es : D.tup [.int ((a + 1) % 7), .int (b + bo h a - min (b + bo h a) (mdn h a false))] = pD (qstep h (a, b)) := rfl
              have elk := look_kv (qrow h (line.take i) (kn, [])).1 (qstep h (a, b))
              rw [es]
              refine ⟨_, .inr ⟨_, _, by rw [mget_cons_ne hne]; exact mget_self, keyT_pD _, rfl⟩, ?_⟩
              rw [elk, xort]
              have et := qrow_take h e (kn, [])
              have hk1 := qrow_len h (line.take i) (kn, [])
              have hk2 : (qrow h (line.take i) (kn, [])).1.length ≤ (qrow h line (kn, [])).1.length := by
                have := (qrow_len h (line.drop i) (qrow h (line.take i) (kn, []))).1
                unfold qrow at this ⊢
                rw [← List.foldl_append, List.take_append_drop] at this
                exact this
              simp only [List.length_nil] at hk1
              by_cases hin : qstep h (a, b) ∈ (qrow h (line.take i) (kn, [])).1
              · rw [decide_eq_true hin]
                simp only [dVar, dC, dOp, dUn, dTst, dAnd, dOr, dNot, dAndV, dOrV, dNotV, dIfE, dNil, dCons, dTup, dLst, dNew, dCall, dB, dChain, dNext, dSeq, dDrop, dRet, dRetN, dIf, dAsg, gN, gSeq, gT, dPar2, dPar3, dAug, dRaise, dFor, dYes, dLc, dels, del, put, nth, startN, dFrz, dIx, dPart, dNoP, dSl, dApp, dPut, dM1, dFmt, dJs, dJoined, dIsi, dRg1, dRg2, dLsI, dTpI, dStI, dZip, dEnL, dLsRg1, dLsRg2, dNewK, dNewT, dOneT, dSetSort, dLsZip, dNewCan, oAdd, oSub, oMul, oDiv, oMod, oPow, oLt, oLe, oGt, oGe, oIs, oIsNot, oNeg, oIAdd, D.isN, bLen, bInt, bStr, bAbs, bBool, bList, bTuple, D.ty, D.isInt, D.isBool, D.isStr, D.isTup, D.isLst, List.map_cons, List.map_nil, List.length_cons, List.length_nil, List.replicate_succ, List.replicate_zero, List.cons_append, List.nil_append, Option.isSome_some, if_true, if_false, Bool.false_eq_true, reduceIte, Nat.reduceAdd, Nat.reduceSub, Bool.not_true, Bool.not_false, true_and, and_true]
                refine hN' _ _ ⟨_, _, _, rfl, ?_⟩
                rw [et]; unfold qone; rw [if_pos hin]
              · rw [decide_eq_false hin]
                simp only [dVar, dC, dOp, dUn, dTst, dAnd, dOr, dNot, dAndV, dOrV, dNotV, dIfE, dNil, dCons, dTup, dLst, dNew, dCall, dB, dChain, dNext, dSeq, dDrop, dRet, dRetN, dIf, dAsg, gN, gSeq, gT, dPar2, dPar3, dAug, dRaise, dFor, dYes, dLc, dels, del, put, nth, startN, dFrz, dIx, dPart, dNoP, dSl, dApp, dPut, dM1, dFmt, dJs, dJoined, dIsi, dRg1, dRg2, dLsI, dTpI, dStI, dZip, dEnL, dLsRg1, dLsRg2, dNewK, dNewT, dOneT, dSetSort, dLsZip, dNewCan, oAdd, oSub, oMul, oDiv, oMod, oPow, oLt, oLe, oGt, oGe, oIs, oIsNot, oNeg, oIAdd, D.isN, bLen, bInt, bStr, bAbs, bBool, bList, bTuple, D.ty, D.isInt, D.isBool, D.isStr, D.isTup, D.isLst, List.map_cons, List.map_nil, List.length_cons, List.length_nil, List.replicate_succ, List.replicate_zero, List.cons_append, List.nil_append, Option.isSome_some, if_true, if_false, Bool.false_eq_true, reduceIte, Nat.reduceAdd, Nat.reduceSub, Bool.not_true, Bool.not_false, true_and, and_true, qPut]
                rw [mget_cons_ne hne, mget_self]
                refine ⟨_, keyT_pD _, by unfold kvOf; rw [List.length_map]; omega, ?_⟩
                rw [mset_cons_ne hne, mset_cons_self, putD_kv]
                refine ⟨p2, _, rfl, mget_self, _, mget_self, by rw [List.length_map]; omega, ?_⟩
                rw [mset_cons_self]
                refine hN' _ _ ⟨_, _, _, rfl, ?_⟩
                rw [et]; unfold qone kput; rw [if_neg hin, if_neg hin, List.map_append]; rfl
          · rintro ρ M' ⟨o6, o7, o8, rfl, rfl⟩
            rw [List.length_map, List.take_length]
            simp only [dVar, dC, dOp, dUn, dTst, dAnd, dOr, dNot, dAndV, dOrV, dNotV, dIfE, dNil, dCons, dTup, dLst, dNew, dCall, dB, dChain, dNext, dSeq, dDrop, dRet, dRetN, dIf, dAsg, gN, gSeq, gT, dPar2, dPar3, dAug, dRaise, dFor, dYes, dLc, dels, del, put, nth, startN, dFrz, dIx, dPart, dNoP, dSl, dApp, dPut, dM1, dFmt, dJs, dJoined, dIsi, dRg1, dRg2, dLsI, dTpI, dStI, dZip, dEnL, dLsRg1, dLsRg2, dNewK, dNewT, dOneT, dSetSort, dLsZip, dNewCan, oAdd, oSub, oMul, oDiv, oMod, oPow, oLt, oLe, oGt, oGe, oIs, oIsNot, oNeg, oIAdd, D.isN, bLen, bInt, bStr, bAbs, bBool, bList, bTuple, D.ty, D.isInt, D.isBool, D.isStr, D.isTup, D.isLst, List.map_cons, List.map_nil, List.length_cons, List.length_nil, List.replicate_succ, List.replicate_zero, List.cons_append, List.nil_append, Option.isSome_some, if_true, if_false, Bool.false_eq_true, reduceIte, Nat.reduceAdd, Nat.reduceSub, Bool.not_true, Bool.not_false, true_and, and_true, mget_self, mdel_cons_self]
            exact hN m _ _ (Nat.lt_succ_self m) ⟨_, _, _, _, _, _, _, hb, hqq, rfl, rfl⟩
        · rw [if_neg hb] at hqq; cases hqq
end Dl
namespace Dl
open PySem
def isLate (h : Hs) (wd waits late : Int) : Bool := if waits = 0 then false else decide (late ≤ 70000 + wd + 1 - dayBy h (rb h (70000 + wd + 1) - waits))
def S_is_late : DSp := fun ds M Q R => ∃ (h : Hs) (wd waits late : Int), h.Ok ∧ ds = [h.d, .int wd, .int waits, .int late] ∧ Q (.bl (isLate h wd waits late)) M
def t_is_late : DTS := dSeq (dIf (dTst (dOp oEq (dVar 2) (dC (.int 0)))) (dRet (dC (.bl false))) (dNext)) (dSeq (dAsg (dOp oSub (dCall S_rounds_before (dCons (dVar 0) (dCons (dOp oAdd (dOp oAdd (dC (.int 70000)) (dVar 1)) (dC (.int 1))) (dNil)))) (dVar 2)) (gN 4)) (dRet (dOp oGe (dOp oSub (dOp oAdd (dOp oAdd (dC (.int 70000)) (dVar 1)) (dC (.int 1))) (dCall S_day_by (dCons (dVar 0) (dCons (dVar 4) (dNil))))) (dVar 3))))
theorem kp_is_late : Keeps S_is_late 5 t_is_late := by
  rintro ds M Q R ⟨h, wd, waits, late, ok, rfl, q⟩
  simp only [t_is_late, dVar, dC, dOp, dUn, dTst, dAnd, dOr, dNot, dAndV, dOrV, dNotV, dIfE, dNil, dCons, dTup, dLst, dNew, dCall, dB, dChain, dNext, dSeq, dDrop, dRet, dRetN, dIf, dAsg, gN, gSeq, gT, dPar2, dPar3, dAug, dRaise, dFor, dYes, dLc, dels, del, put, nth, startN, dFrz, dIx, dPart, dNoP, dSl, dApp, dPut, dM1, dFmt, dJs, dJoined, dIsi, dRg1, dRg2, dLsI, dTpI, dStI, dZip, dEnL, dLsRg1, dLsRg2, dNewK, dNewT, dOneT, dSetSort, dLsZip, dNewCan, oAdd, oSub, oMul, oDiv, oMod, oPow, oLt, oLe, oGt, oGe, oIs, oIsNot, oNeg, oIAdd, D.isN, bLen, bInt, bStr, bAbs, bBool, bList, bTuple, D.ty, D.isInt, D.isBool, D.isStr, D.isTup, D.isLst, List.map_cons, List.map_nil, List.length_cons, List.length_nil, List.replicate_succ, List.replicate_zero, List.cons_append, List.nil_append, Option.isSome_some, if_true, if_false, Bool.false_eq_true, reduceIte, Nat.reduceAdd, Nat.reduceSub, Bool.not_true, Bool.not_false, true_and, and_true]
  refine ⟨ok_int _, ok_int _, ?_⟩
  rw [eqv_int]
  unfold isLate at q
  by_cases hw : waits = 0
  · rw [if_pos hw] at q; rw [decide_eq_true hw]; simp only [dVar, dC, dOp, dUn, dTst, dAnd, dOr, dNot, dAndV, dOrV, dNotV, dIfE, dNil, dCons, dTup, dLst, dNew, dCall, dB, dChain, dNext, dSeq, dDrop, dRet, dRetN, dIf, dAsg, gN, gSeq, gT, dPar2, dPar3, dAug, dRaise, dFor, dYes, dLc, dels, del, put, nth, startN, dFrz, dIx, dPart, dNoP, dSl, dApp, dPut, dM1, dFmt, dJs, dJoined, dIsi, dRg1, dRg2, dLsI, dTpI, dStI, dZip, dEnL, dLsRg1, dLsRg2, dNewK, dNewT, dOneT, dSetSort, dLsZip, dNewCan, oAdd, oSub, oMul, oDiv, oMod, oPow, oLt, oLe, oGt, oGe, oIs, oIsNot, oNeg, oIAdd, D.isN, bLen, bInt, bStr, bAbs, bBool, bList, bTuple, D.ty, D.isInt, D.isBool, D.isStr, D.isTup, D.isLst, List.map_cons, List.map_nil, List.length_cons, List.length_nil, List.replicate_succ, List.replicate_zero, List.cons_append, List.nil_append, Option.isSome_some, if_true, if_false, Bool.false_eq_true, reduceIte, Nat.reduceAdd, Nat.reduceSub, Bool.not_true, Bool.not_false, true_and, and_true]; exact fg_self q
  · rw [if_neg hw] at q; rw [decide_eq_false hw]; simp only [dVar, dC, dOp, dUn, dTst, dAnd, dOr, dNot, dAndV, dOrV, dNotV, dIfE, dNil, dCons, dTup, dLst, dNew, dCall, dB, dChain, dNext, dSeq, dDrop, dRet, dRetN, dIf, dAsg, gN, gSeq, gT, dPar2, dPar3, dAug, dRaise, dFor, dYes, dLc, dels, del, put, nth, startN, dFrz, dIx, dPart, dNoP, dSl, dApp, dPut, dM1, dFmt, dJs, dJoined, dIsi, dRg1, dRg2, dLsI, dTpI, dStI, dZip, dEnL, dLsRg1, dLsRg2, dNewK, dNewT, dOneT, dSetSort, dLsZip, dNewCan, oAdd, oSub, oMul, oDiv, oMod, oPow, oLt, oLe, oGt, oGe, oIs, oIsNot, oNeg, oIAdd, D.isN, bLen, bInt, bStr, bAbs, bBool, bList, bTuple, D.ty, D.isInt, D.isBool, D.isStr, D.isTup, D.isLst, List.map_cons, List.map_nil, List.length_cons, List.length_nil, List.replicate_succ, List.replicate_zero, List.cons_append, List.nil_append, Option.isSome_some, if_true, if_false, Bool.false_eq_true, reduceIte, Nat.reduceAdd, Nat.reduceSub, Bool.not_true, Bool.not_false, true_and, and_true]
    exact ⟨h, _, ok, rfl, h, _, ok, rfl, fg_self q⟩
def hasLate (h : Hs) (st : List P2) (late : Int) : Bool := st.any fun p => isLate h ((p.1 - 1) % 7) p.2 late
def S_has_late : DSp := fun ds M Q R => ∃ (h : Hs) (st : List P2) (late : Int), h.Ok ∧ st.length ≤ 100000 ∧ ds = [h.d, .lst (st.map pD), .int late] ∧ Q (.bl (hasLate h st late)) M
def t_has_late : DTS := dRet (dB bAny (dCons (dLc [3, 4] (dLsI (dVar 1)) (gT [gN 3, gN 4]) (dYes) (dCall S_is_late (dCons (dVar 0) (dCons (dOp oMod (dOp oSub (dVar 3) (dC (.int 1))) (dC (.int 7))) (dCons (dVar 4) (dCons (dVar 2) (dNil))))))) (dNil)))
def D.p2 : D → P2
  | .tup [.int a, .int b] => (a, b)
  | _ => (0, 0)
theorem p2_pD (p : P2) : (pD p).p2 = p := rfl
theorem kp_has_late : Keeps S_has_late 5 t_has_late := by
  rintro ds M Q R ⟨h, st, late, ok, hl, rfl, q⟩
  simp only [t_has_late, dVar, dC, dOp, dUn, dTst, dAnd, dOr, dNot, dAndV, dOrV, dNotV, dIfE, dNil, dCons, dTup, dLst, dNew, dCall, dB, dChain, dNext, dSeq, dDrop, dRet, dRetN, dIf, dAsg, gN, gSeq, gT, dPar2, dPar3, dAug, dRaise, dFor, dYes, dLc, dels, del, put, nth, startN, dFrz, dIx, dPart, dNoP, dSl, dApp, dPut, dM1, dFmt, dJs, dJoined, dIsi, dRg1, dRg2, dLsI, dTpI, dStI, dZip, dEnL, dLsRg1, dLsRg2, dNewK, dNewT, dOneT, dSetSort, dLsZip, dNewCan, oAdd, oSub, oMul, oDiv, oMod, oPow, oLt, oLe, oGt, oGe, oIs, oIsNot, oNeg, oIAdd, D.isN, bLen, bInt, bStr, bAbs, bBool, bList, bTuple, D.ty, D.isInt, D.isBool, D.isStr, D.isTup, D.isLst, List.map_cons, List.map_nil, List.length_cons, List.length_nil, List.replicate_succ, List.replicate_zero, List.cons_append, List.nil_append, Option.isSome_some, if_true, if_false, Bool.false_eq_true, reduceIte, Nat.reduceAdd, Nat.reduceSub, Bool.not_true, Bool.not_false, true_and, and_true]
  refine ⟨_, rfl, by rw [List.length_map]; exact hl, lc_map (fun d => .bl (isLate h ((d.p2.1 - 1) % 7) d.p2.2 late)) _ (fun d hd k hk => ?_) ?_⟩
  · obtain ⟨p, _, rfl⟩ := List.mem_map.mp hd
    rw [p2_pD] at hk
    simp only [dVar, dC, dOp, dUn, dTst, dAnd, dOr, dNot, dAndV, dOrV, dNotV, dIfE, dNil, dCons, dTup, dLst, dNew, dCall, dB, dChain, dNext, dSeq, dDrop, dRet, dRetN, dIf, dAsg, gN, gSeq, gT, dPar2, dPar3, dAug, dRaise, dFor, dYes, dLc, dels, del, put, nth, startN, dFrz, dIx, dPart, dNoP, dSl, dApp, dPut, dM1, dFmt, dJs, dJoined, dIsi, dRg1, dRg2, dLsI, dTpI, dStI, dZip, dEnL, dLsRg1, dLsRg2, dNewK, dNewT, dOneT, dSetSort, dLsZip, dNewCan, oAdd, oSub, oMul, oDiv, oMod, oPow, oLt, oLe, oGt, oGe, oIs, oIsNot, oNeg, oIAdd, D.isN, bLen, bInt, bStr, bAbs, bBool, bList, bTuple, D.ty, D.isInt, D.isBool, D.isStr, D.isTup, D.isLst, List.map_cons, List.map_nil, List.length_cons, List.length_nil, List.replicate_succ, List.replicate_zero, List.cons_append, List.nil_append, Option.isSome_some, if_true, if_false, Bool.false_eq_true, reduceIte, Nat.reduceAdd, Nat.reduceSub, Bool.not_true, Bool.not_false, true_and, and_true, pD, gSeq]
    exact ⟨by decide, h, _, _, _, ok, rfl, hk⟩
  · simp only [bAny]
    refine ⟨(st.map pD).map fun d => isLate h ((d.p2.1 - 1) % 7) d.p2.2 late, by simp only [List.map_map]; rfl, ?_⟩
    have e : ((st.map pD).map fun d => isLate h ((d.p2.1 - 1) % 7) d.p2.2 late).any id = hasLate h st late := by
      unfold hasLate; rw [List.map_map, List.any_map]; rfl
    rw [e]; exact fg_self q
/-- once each -/
def uniq : List P2 → List P2
  | [] => []
  | p :: l => if p ∈ uniq l then uniq l else p :: uniq l
theorem uniq_mem (p : P2) : ∀ l : List P2, p ∈ uniq l ↔ p ∈ l
  | [] => Iff.rfl
  | q :: l => by
    unfold uniq
    have ih := uniq_mem p l
    have ihq := uniq_mem q l
    split
    · rename_i h
      rw [ih, List.mem_cons]
      exact ⟨.inr, fun z => z.elim (fun e => by rw [e]; exact ihq.mp h) id⟩
    · rw [List.mem_cons, List.mem_cons, ih]
theorem uniq_nodup : ∀ l : List P2, (uniq l).Nodup
  | [] => .nil
  | q :: l => by
    unfold uniq
    split
    · exact uniq_nodup l
    · rename_i h
      exact List.nodup_cons.mpr ⟨h, uniq_nodup l⟩
def more (h : Hs) (st : List P2) : List P2 := st.map fun p => ((p.1 + 1) % 7, p.2 + bo h p.1)
def inBd (B : Int) (l : List P2) : Bool := l.all fun p => decide (0 ≤ p.1) && decide (p.1 < B) && (decide (0 ≤ p.2) && decide (p.2 < B))
/-- m: the turns that all_quiet has at most -/
def few (h : Hs) (late : Int) (m : Nat) : Nat → List P2 → Int → Option Int
  | 0, _, _ => none
  | n + 1, st, many => if hasLate h st late then some many else if (more h st ++ st).length < 64 ∧ inBd 1000 (more h st ++ st) = true then
      match quiet h m ((isort (uniq (more h st ++ st))).foldl kput []) (isort (uniq (more h st ++ st))) with
      | some known => if known.length ≤ 50000 then few h late m n (isort known) (many + 1) else none
      | none => none
    else none
def fewBy (h : Hs) (late : Int) (m n : Nat) : Option Int := match quiet h m [(0, 0)] [(0, 0)] with
  | some known => if known.length ≤ 50000 then few h late m n (isort known) 0 else none
  | none => none
def S_fewest_by : DSp := fun ds M Q R => ∃ (h : Hs) (late : Int) (m n : Nat) (r : Int), h.Ok ∧ ds = [h.d, .int late] ∧ fewBy h late m n = some r ∧ Q (.int r) M
def t_fewest_by : DTS := dSeq (dPar2 2 3 (dCons (dCall S_all_quiet (dCons (dVar 0) (dCons (dLst (dCons (dTup (dCons (dC (.int 0)) (dCons (dC (.int 0)) (dNil)))) (dNil))) (dNil)))) (dCons (dC (.int 0)) (dNil)))) (dSeq (dWhile (dNot (dTst (dCall S_has_late (dCons (dVar 0) (dCons (dVar 2) (dCons (dVar 1) (dNil))))))) (dSeq (dAsg (dLc [5, 6] (dLsI (dVar 2)) (gT [gN 5, gN 6]) (dYes) (dTup (dCons (dOp oMod (dOp oAdd (dVar 5) (dC (.int 1))) (dC (.int 7))) (dCons (dOp oAdd (dVar 6) (dCall S_begins_on (dCons (dVar 0) (dCons (dVar 5) (dNil))))) (dNil))))) (gN 4)) (dPar2 2 3 (dCons (dCall S_all_quiet (dCons (dVar 0) (dCons (dSetSort (dOp oAdd (dVar 4) (dVar 2))) (dNil)))) (dCons (dOp oAdd (dVar 3) (dC (.int 1))) (dNil)))))) (dRet (dVar 3)))
def l2 (p : P2) : List Int := [p.1, p.2]
theorem tupI_l2 (p : P2) : tupI (l2 p) = pD p := rfl
theorem code_l2 {p q : P2} (hp : 0 ≤ p.1 ∧ p.1 < 1000 ∧ 0 ≤ p.2 ∧ p.2 < 1000) (hq : 0 ≤ q.1 ∧ q.1 < 1000 ∧ 0 ≤ q.2 ∧ q.2 < 1000) (h : TS.code 1000 (l2 p) ≤ TS.code 1000 (l2 q)) : leP p q = true := by
  obtain ⟨a, b⟩ := p; obtain ⟨c, d⟩ := q
  simp only [l2, TS.code, List.length_cons, List.length_nil] at h
  simp only at hp hq
  unfold leP
  apply decide_eq_true
  simp only
  omega
theorem isort_len (l : List P2) : (isort l).length = l.length := (isort_perm l).length_eq
theorem uniq_len : ∀ l : List P2, (uniq l).length ≤ l.length
  | [] => Nat.le_refl _
  | q :: l => by
    have := uniq_len l
    unfold uniq
    split <;> simp <;> omega
theorem kp_fewest_by : Keeps S_fewest_by 7 t_fewest_by := by
  rintro ds M Q R ⟨h, late, m, n, r, ok, rfl, hr, q⟩
  unfold fewBy at hr
  cases e0 : quiet h m [(0, 0)] [(0, 0)] with
  | none => rw [e0] at hr; cases hr
  | some kn0 =>
    rw [e0] at hr
    dsimp only at hr
    by_cases hk0 : kn0.length ≤ 50000
    · rw [if_pos hk0] at hr
      simp only [t_fewest_by, dVar, dC, dOp, dUn, dTst, dAnd, dOr, dNot, dAndV, dOrV, dNotV, dIfE, dNil, dCons, dTup, dLst, dNew, dCall, dB, dChain, dNext, dSeq, dDrop, dRet, dRetN, dIf, dAsg, gN, gSeq, gT, dPar2, dPar3, dAug, dRaise, dFor, dYes, dLc, dels, del, put, nth, startN, dFrz, dIx, dPart, dNoP, dSl, dApp, dPut, dM1, dFmt, dJs, dJoined, dIsi, dRg1, dRg2, dLsI, dTpI, dStI, dZip, dEnL, dLsRg1, dLsRg2, dNewK, dNewT, dOneT, dSetSort, dLsZip, dNewCan, oAdd, oSub, oMul, oDiv, oMod, oPow, oLt, oLe, oGt, oGe, oIs, oIsNot, oNeg, oIAdd, D.isN, bLen, bInt, bStr, bAbs, bBool, bList, bTuple, D.ty, D.isInt, D.isBool, D.isStr, D.isTup, D.isLst, List.map_cons, List.map_nil, List.length_cons, List.length_nil, List.replicate_succ, List.replicate_zero, List.cons_append, List.nil_append, Option.isSome_some, if_true, if_false, Bool.false_eq_true, reduceIte, Nat.reduceAdd, Nat.reduceSub, Bool.not_true, Bool.not_false, true_and, and_true]
      refine ⟨by decide, by decide, h, [(0, 0)], m, kn0, ok, by decide, rfl, e0, ?_⟩
      simp only [dVar, dC, dOp, dUn, dTst, dAnd, dOr, dNot, dAndV, dOrV, dNotV, dIfE, dNil, dCons, dTup, dLst, dNew, dCall, dB, dChain, dNext, dSeq, dDrop, dRet, dRetN, dIf, dAsg, gN, gSeq, gT, dPar2, dPar3, dAug, dRaise, dFor, dYes, dLc, dels, del, put, nth, startN, dFrz, dIx, dPart, dNoP, dSl, dApp, dPut, dM1, dFmt, dJs, dJoined, dIsi, dRg1, dRg2, dLsI, dTpI, dStI, dZip, dEnL, dLsRg1, dLsRg2, dNewK, dNewT, dOneT, dSetSort, dLsZip, dNewCan, oAdd, oSub, oMul, oDiv, oMod, oPow, oLt, oLe, oGt, oGe, oIs, oIsNot, oNeg, oIAdd, D.isN, bLen, bInt, bStr, bAbs, bBool, bList, bTuple, D.ty, D.isInt, D.isBool, D.isStr, D.isTup, D.isLst, List.map_cons, List.map_nil, List.length_cons, List.length_nil, List.replicate_succ, List.replicate_zero, List.cons_append, List.nil_append, Option.isSome_some, if_true, if_false, Bool.false_eq_true, reduceIte, Nat.reduceAdd, Nat.reduceSub, Bool.not_true, Bool.not_false, true_and, and_true]
      refine while_inv (fun j ρ M' => M' = M ∧ ∃ (kn : List P2) (many : Int) (o : Option D), kn.length ≤ 50000 ∧ few h late m j (isort kn) many = some r ∧ ρ = [some h.d, some (.int late), some (.lst ((isort kn).map pD)), some (.int many), o, none, none]) (m := n) ⟨rfl, kn0, 0, none, hk0, hr, rfl⟩ ?_
      rintro j ρ M' N ⟨rfl, kn, many, o, hkn, hf, rfl⟩ hN
      simp only [dVar, dC, dOp, dUn, dTst, dAnd, dOr, dNot, dAndV, dOrV, dNotV, dIfE, dNil, dCons, dTup, dLst, dNew, dCall, dB, dChain, dNext, dSeq, dDrop, dRet, dRetN, dIf, dAsg, gN, gSeq, gT, dPar2, dPar3, dAug, dRaise, dFor, dYes, dLc, dels, del, put, nth, startN, dFrz, dIx, dPart, dNoP, dSl, dApp, dPut, dM1, dFmt, dJs, dJoined, dIsi, dRg1, dRg2, dLsI, dTpI, dStI, dZip, dEnL, dLsRg1, dLsRg2, dNewK, dNewT, dOneT, dSetSort, dLsZip, dNewCan, oAdd, oSub, oMul, oDiv, oMod, oPow, oLt, oLe, oGt, oGe, oIs, oIsNot, oNeg, oIAdd, D.isN, bLen, bInt, bStr, bAbs, bBool, bList, bTuple, D.ty, D.isInt, D.isBool, D.isStr, D.isTup, D.isLst, List.map_cons, List.map_nil, List.length_cons, List.length_nil, List.replicate_succ, List.replicate_zero, List.cons_append, List.nil_append, Option.isSome_some, if_true, if_false, Bool.false_eq_true, reduceIte, Nat.reduceAdd, Nat.reduceSub, Bool.not_true, Bool.not_false, true_and, and_true]
      refine ⟨h, isort kn, late, ok, by rw [isort_len]; omega, rfl, ?_⟩
      simp only [dVar, dC, dOp, dUn, dTst, dAnd, dOr, dNot, dAndV, dOrV, dNotV, dIfE, dNil, dCons, dTup, dLst, dNew, dCall, dB, dChain, dNext, dSeq, dDrop, dRet, dRetN, dIf, dAsg, gN, gSeq, gT, dPar2, dPar3, dAug, dRaise, dFor, dYes, dLc, dels, del, put, nth, startN, dFrz, dIx, dPart, dNoP, dSl, dApp, dPut, dM1, dFmt, dJs, dJoined, dIsi, dRg1, dRg2, dLsI, dTpI, dStI, dZip, dEnL, dLsRg1, dLsRg2, dNewK, dNewT, dOneT, dSetSort, dLsZip, dNewCan, oAdd, oSub, oMul, oDiv, oMod, oPow, oLt, oLe, oGt, oGe, oIs, oIsNot, oNeg, oIAdd, D.isN, bLen, bInt, bStr, bAbs, bBool, bList, bTuple, D.ty, D.isInt, D.isBool, D.isStr, D.isTup, D.isLst, List.map_cons, List.map_nil, List.length_cons, List.length_nil, List.replicate_succ, List.replicate_zero, List.cons_append, List.nil_append, Option.isSome_some, if_true, if_false, Bool.false_eq_true, reduceIte, Nat.reduceAdd, Nat.reduceSub, Bool.not_true, Bool.not_false, true_and, and_true]
      cases j with
      | zero => cases hf
      | succ j =>
        unfold few at hf
        cases hb : hasLate h (isort kn) late with
        | true =>
          rw [hb, if_pos rfl] at hf
          cases hf
          simp only [dVar, dC, dOp, dUn, dTst, dAnd, dOr, dNot, dAndV, dOrV, dNotV, dIfE, dNil, dCons, dTup, dLst, dNew, dCall, dB, dChain, dNext, dSeq, dDrop, dRet, dRetN, dIf, dAsg, gN, gSeq, gT, dPar2, dPar3, dAug, dRaise, dFor, dYes, dLc, dels, del, put, nth, startN, dFrz, dIx, dPart, dNoP, dSl, dApp, dPut, dM1, dFmt, dJs, dJoined, dIsi, dRg1, dRg2, dLsI, dTpI, dStI, dZip, dEnL, dLsRg1, dLsRg2, dNewK, dNewT, dOneT, dSetSort, dLsZip, dNewCan, oAdd, oSub, oMul, oDiv, oMod, oPow, oLt, oLe, oGt, oGe, oIs, oIsNot, oNeg, oIAdd, D.isN, bLen, bInt, bStr, bAbs, bBool, bList, bTuple, D.ty, D.isInt, D.isBool, D.isStr, D.isTup, D.isLst, List.map_cons, List.map_nil, List.length_cons, List.length_nil, List.replicate_succ, List.replicate_zero, List.cons_append, List.nil_append, Option.isSome_some, if_true, if_false, Bool.false_eq_true, reduceIte, Nat.reduceAdd, Nat.reduceSub, Bool.not_true, Bool.not_false, true_and, and_true]
          exact fg_self q
        | false =>
          rw [hb, if_neg Bool.false_ne_true] at hf
          simp only [dVar, dC, dOp, dUn, dTst, dAnd, dOr, dNot, dAndV, dOrV, dNotV, dIfE, dNil, dCons, dTup, dLst, dNew, dCall, dB, dChain, dNext, dSeq, dDrop, dRet, dRetN, dIf, dAsg, gN, gSeq, gT, dPar2, dPar3, dAug, dRaise, dFor, dYes, dLc, dels, del, put, nth, startN, dFrz, dIx, dPart, dNoP, dSl, dApp, dPut, dM1, dFmt, dJs, dJoined, dIsi, dRg1, dRg2, dLsI, dTpI, dStI, dZip, dEnL, dLsRg1, dLsRg2, dNewK, dNewT, dOneT, dSetSort, dLsZip, dNewCan, oAdd, oSub, oMul, oDiv, oMod, oPow, oLt, oLe, oGt, oGe, oIs, oIsNot, oNeg, oIAdd, D.isN, bLen, bInt, bStr, bAbs, bBool, bList, bTuple, D.ty, D.isInt, D.isBool, D.isStr, D.isTup, D.isLst, List.map_cons, List.map_nil, List.length_cons, List.length_nil, List.replicate_succ, List.replicate_zero, List.cons_append, List.nil_append, Option.isSome_some, if_true, if_false, Bool.false_eq_true, reduceIte, Nat.reduceAdd, Nat.reduceSub, Bool.not_true, Bool.not_false, true_and, and_true]
          by_cases hc : (more h (isort kn) ++ isort kn).length < 64 ∧ inBd 1000 (more h (isort kn) ++ isort kn) = true
          · rw [if_pos hc] at hf
            obtain ⟨h64, hbd⟩ := hc
            refine ⟨_, rfl, by rw [List.length_map, isort_len]; omega, lc_map (fun d => pD ((d.p2.1 + 1) % 7, d.p2.2 + bo h d.p2.1)) _ (fun d hd k hk => ?_) ?_⟩
            · obtain ⟨p, _, rfl⟩ := List.mem_map.mp hd
              rw [p2_pD] at hk
              simp only [dVar, dC, dOp, dUn, dTst, dAnd, dOr, dNot, dAndV, dOrV, dNotV, dIfE, dNil, dCons, dTup, dLst, dNew, dCall, dB, dChain, dNext, dSeq, dDrop, dRet, dRetN, dIf, dAsg, gN, gSeq, gT, dPar2, dPar3, dAug, dRaise, dFor, dYes, dLc, dels, del, put, nth, startN, dFrz, dIx, dPart, dNoP, dSl, dApp, dPut, dM1, dFmt, dJs, dJoined, dIsi, dRg1, dRg2, dLsI, dTpI, dStI, dZip, dEnL, dLsRg1, dLsRg2, dNewK, dNewT, dOneT, dSetSort, dLsZip, dNewCan, oAdd, oSub, oMul, oDiv, oMod, oPow, oLt, oLe, oGt, oGe, oIs, oIsNot, oNeg, oIAdd, D.isN, bLen, bInt, bStr, bAbs, bBool, bList, bTuple, D.ty, D.isInt, D.isBool, D.isStr, D.isTup, D.isLst, List.map_cons, List.map_nil, List.length_cons, List.length_nil, List.replicate_succ, List.replicate_zero, List.cons_append, List.nil_append, Option.isSome_some, if_true, if_false, Bool.false_eq_true, reduceIte, Nat.reduceAdd, Nat.reduceSub, Bool.not_true, Bool.not_false, true_and, and_true, pD, gSeq]
              exact ⟨by decide, h, _, ok, rfl, by decide, hk⟩
            · have em : ((isort kn).map pD).map (fun d => pD ((d.p2.1 + 1) % 7, d.p2.2 + bo h d.p2.1)) = (more h (isort kn)).map pD := by
                unfold more; simp only [List.map_map]; rfl
              rw [em]
              simp only [dVar, dC, dOp, dUn, dTst, dAnd, dOr, dNot, dAndV, dOrV, dNotV, dIfE, dNil, dCons, dTup, dLst, dNew, dCall, dB, dChain, dNext, dSeq, dDrop, dRet, dRetN, dIf, dAsg, gN, gSeq, gT, dPar2, dPar3, dAug, dRaise, dFor, dYes, dLc, dels, del, put, nth, startN, dFrz, dIx, dPart, dNoP, dSl, dApp, dPut, dM1, dFmt, dJs, dJoined, dIsi, dRg1, dRg2, dLsI, dTpI, dStI, dZip, dEnL, dLsRg1, dLsRg2, dNewK, dNewT, dOneT, dSetSort, dLsZip, dNewCan, oAdd, oSub, oMul, oDiv, oMod, oPow, oLt, oLe, oGt, oGe, oIs, oIsNot, oNeg, oIAdd, D.isN, bLen, bInt, bStr, bAbs, bBool, bList, bTuple, D.ty, D.isInt, D.isBool, D.isStr, D.isTup, D.isLst, List.map_cons, List.map_nil, List.length_cons, List.length_nil, List.replicate_succ, List.replicate_zero, List.cons_append, List.nil_append, Option.isSome_some, if_true, if_false, Bool.false_eq_true, reduceIte, Nat.reduceAdd, Nat.reduceSub, Bool.not_true, Bool.not_false, true_and, and_true]
              refine ⟨by simp only [List.length_map]; rw [List.length_append] at h64; omega, (more h (isort kn) ++ isort kn).map l2, 2, 1000, ?_, by rw [List.length_map]; exact h64, by decide, fun k hk => ?_, fun L nd mem srt => ?_⟩
              · rw [List.map_map, ← List.map_append]; rfl
              · obtain ⟨p, hp, rfl⟩ := List.mem_map.mp hk
                have := List.all_eq_true.mp hbd p hp
                simp only [Bool.and_eq_true, decide_eq_true_eq] at this
                refine ⟨rfl, fun x hx => ?_⟩
                simp only [l2, List.mem_cons, List.not_mem_nil, or_false] at hx
                rcases hx with rfl | rfl
                · exact this.1
                · exact this.2
              · -- the sorted set is the one that is told
                have hall : ∀ k ∈ L, ∃ p, k = l2 p ∧ p ∈ more h (isort kn) ++ isort kn := fun k hk => by
                  obtain ⟨p, hp, rfl⟩ := List.mem_map.mp ((mem k).mp hk)
                  exact ⟨p, rfl, hp⟩
                have eL : ∃ L' : List P2, L = L'.map l2 ∧ ∀ p ∈ L', p ∈ more h (isort kn) ++ isort kn := by
                  clear nd mem srt
                  induction L with
                  | nil => exact ⟨[], rfl, fun _ h => by cases h⟩
                  | cons k L ih =>
                    obtain ⟨p, rfl, hp⟩ := hall k (List.mem_cons_self ..)
                    obtain ⟨L', rfl, h'⟩ := ih fun k hk => hall k (List.mem_cons_of_mem _ hk)
                    refine ⟨p :: L', rfl, fun x hx => ?_⟩
                    rcases List.mem_cons.mp hx with z | z
                    · rw [z]; exact hp
                    · exact h' x z
                obtain ⟨L', rfl, hin⟩ := eL
                have inj : ∀ {p q : P2}, l2 p = l2 q → p = q := fun {p q} e => by
                  obtain ⟨a, b⟩ := p; obtain ⟨c, d⟩ := q
                  simp only [l2, List.cons.injEq, and_true] at e
                  rw [e.1, e.2]
                have bd : ∀ p ∈ more h (isort kn) ++ isort kn, 0 ≤ p.1 ∧ p.1 < 1000 ∧ 0 ≤ p.2 ∧ p.2 < 1000 := fun p hp => by
                  have := List.all_eq_true.mp hbd p hp
                  simp only [Bool.and_eq_true, decide_eq_true_eq] at this
                  exact ⟨this.1.1, this.1.2, this.2.1, this.2.2⟩
                have nd' : L'.Nodup := List.Pairwise.imp (fun {p q} hne e => hne (by rw [e])) (List.pairwise_map.mp nd)
                have srt' : L'.Pairwise (fun a b => leP a b = true) := (List.pairwise_map.mp srt).imp_of_mem fun {a b} ha hb hc => code_l2 (bd a (hin a ha)) (bd b (hin b hb)) hc
                have e1 : L' = isort (uniq (more h (isort kn) ++ isort kn)) := by
                  refine sorted_eq srt' (isort_sorted _) (((List.perm_ext_iff_of_nodup nd' (uniq_nodup _)).mpr fun p => ?_).trans (isort_perm _).symm)
                  rw [uniq_mem]
                  constructor
                  · exact hin p
                  · intro hp
                    obtain ⟨p', hp', e⟩ := List.mem_map.mp ((mem (l2 p)).mpr (List.mem_map.mpr ⟨p, hp, rfl⟩))
                    rw [← inj e]; exact hp'
                have e2 : (L'.map l2).map tupI = L'.map pD := by rw [List.map_map]; rfl
                rw [e2, e1]
                cases eq' : quiet h m ((isort (uniq (more h (isort kn) ++ isort kn))).foldl kput []) (isort (uniq (more h (isort kn) ++ isort kn))) with
                | none => rw [eq'] at hf; cases hf
                | some kn' =>
                  rw [eq'] at hf
                  dsimp only at hf
                  by_cases hk' : kn'.length ≤ 50000
                  · rw [if_pos hk'] at hf
                    refine ⟨h, _, m, kn', ok, ?_, rfl, eq', ?_⟩
                    · rw [isort_len]
                      have := uniq_len (more h (isort kn) ++ isort kn)
                      omega
                    · simp only [dVar, dC, dOp, dUn, dTst, dAnd, dOr, dNot, dAndV, dOrV, dNotV, dIfE, dNil, dCons, dTup, dLst, dNew, dCall, dB, dChain, dNext, dSeq, dDrop, dRet, dRetN, dIf, dAsg, gN, gSeq, gT, dPar2, dPar3, dAug, dRaise, dFor, dYes, dLc, dels, del, put, nth, startN, dFrz, dIx, dPart, dNoP, dSl, dApp, dPut, dM1, dFmt, dJs, dJoined, dIsi, dRg1, dRg2, dLsI, dTpI, dStI, dZip, dEnL, dLsRg1, dLsRg2, dNewK, dNewT, dOneT, dSetSort, dLsZip, dNewCan, oAdd, oSub, oMul, oDiv, oMod, oPow, oLt, oLe, oGt, oGe, oIs, oIsNot, oNeg, oIAdd, D.isN, bLen, bInt, bStr, bAbs, bBool, bList, bTuple, D.ty, D.isInt, D.isBool, D.isStr, D.isTup, D.isLst, List.map_cons, List.map_nil, List.length_cons, List.length_nil, List.replicate_succ, List.replicate_zero, List.cons_append, List.nil_append, Option.isSome_some, if_true, if_false, Bool.false_eq_true, reduceIte, Nat.reduceAdd, Nat.reduceSub, Bool.not_true, Bool.not_false, true_and, and_true]
                      exact hN j _ _ (Nat.lt_succ_self j) ⟨rfl, kn', many + 1, _, hk', hf, rfl⟩
                  · rw [if_neg hk'] at hf; cases hf
          · rw [if_neg hc] at hf; cases hf
    · rw [if_neg hk0] at hr; cases hr
def S_fewest : DSp := fun ds M Q R => ∃ (h : Hs) (late : Int) (m n : Nat) (r : Int), h.Ok ∧ 1 ≤ late ∧ late ≤ 40 ∧ ds = [h.d, .int late] ∧ fewBy h late m n = some r ∧ Q (.int r) M
def t_fewest : DTS := dSeq (dDrop (dCall S_need_house (dCons (dVar 0) (dNil)))) (dSeq (dDrop (dCall S_need_number (dCons (dVar 1) (dCons (dC (.int 1)) (dCons (dC (.int 40)) (dNil)))))) (dRet (dCall S_fewest_by (dCons (dVar 0) (dCons (dVar 1) (dNil))))))
theorem kp_fewest : Keeps S_fewest 2 t_fewest := by
  rintro ds M Q R ⟨h, late, m, n, r, ok, h1, h2, rfl, hr, q⟩
  simp only [t_fewest, dVar, dC, dOp, dUn, dTst, dAnd, dOr, dNot, dAndV, dOrV, dNotV, dIfE, dNil, dCons, dTup, dLst, dNew, dCall, dB, dChain, dNext, dSeq, dDrop, dRet, dRetN, dIf, dAsg, gN, gSeq, gT, dPar2, dPar3, dAug, dRaise, dFor, dYes, dLc, dels, del, put, nth, startN, dFrz, dIx, dPart, dNoP, dSl, dApp, dPut, dM1, dFmt, dJs, dJoined, dIsi, dRg1, dRg2, dLsI, dTpI, dStI, dZip, dEnL, dLsRg1, dLsRg2, dNewK, dNewT, dOneT, dSetSort, dLsZip, dNewCan, oAdd, oSub, oMul, oDiv, oMod, oPow, oLt, oLe, oGt, oGe, oIs, oIsNot, oNeg, oIAdd, D.isN, bLen, bInt, bStr, bAbs, bBool, bList, bTuple, D.ty, D.isInt, D.isBool, D.isStr, D.isTup, D.isLst, List.map_cons, List.map_nil, List.length_cons, List.length_nil, List.replicate_succ, List.replicate_zero, List.cons_append, List.nil_append, Option.isSome_some, if_true, if_false, Bool.false_eq_true, reduceIte, Nat.reduceAdd, Nat.reduceSub, Bool.not_true, Bool.not_false, true_and, and_true]
  exact needH ok (needN h1 h2 ⟨h, late, m, n, r, ok, rfl, hr, fg_self q⟩)
def neverSlower (h g : Hs) : Bool := (List.range 7).all fun i => decide (mdn g (i : Nat) false ≤ mdn h (i : Nat) false)
def S_never_slower : DSp := fun ds M Q R => ∃ h g : Hs, h.Ok ∧ g.Ok ∧ ds = [h.d, g.d] ∧ (h.work = g.work → Q (.bl (neverSlower h g)) M) ∧ (h.work ≠ g.work → R (.mk "Unlike" none) M)
def t_never_slower : DTS := dSeq (dDrop (dCall S_need_house (dCons (dVar 0) (dNil)))) (dSeq (dDrop (dCall S_need_house (dCons (dVar 1) (dNil)))) (dSeq (dIf (dTst (dOp oNe (dOp dIx (dVar 0) (dC (.int 0))) (dOp dIx (dVar 1) (dC (.int 0))))) (dRaise "Unlike") (dNext)) (dSeq (dAsg (dLsRg1 (dB bLen (dCons (dC (.str ("0123456" : Str))) (dNil)))) (gN 2)) (dRet (dB bAll (dCons (dLc [3] (dLsI (dVar 2)) (gN 3) (dYes) (dOp oGe (dCall S_most_done (dCons (dVar 0) (dCons (dVar 3) (dCons (dC (.bl false)) (dNil))))) (dCall S_most_done (dCons (dVar 1) (dCons (dVar 3) (dCons (dC (.bl false)) (dNil))))))) (dNil)))))))
theorem eqv_wk (a b : List Nat) : (D.str (wk a)).eqv (.str (wk b)) = decide (a = b) := by
  simp only [D.eqv, D.py, PyData.eqv]
  by_cases h : a = b
  · subst h; simp
  · rw [decide_eq_false h]
    apply beq_eq_false_iff_ne.mpr
    intro e
    apply h
    have e1 : (wk a).cps.toList = (wk b).cps.toList := by rw [e]
    simp only [wk, List.toList_toArray] at e1
    exact (List.map_inj_right (fun x y h => by omega)).mp e1
theorem kp_never_slower : Keeps S_never_slower 4 t_never_slower := by
  rintro ds M Q R ⟨h, g, ok, ok2, rfl, q1, q2⟩
  simp only [t_never_slower, dVar, dC, dOp, dUn, dTst, dAnd, dOr, dNot, dAndV, dOrV, dNotV, dIfE, dNil, dCons, dTup, dLst, dNew, dCall, dB, dChain, dNext, dSeq, dDrop, dRet, dRetN, dIf, dAsg, gN, gSeq, gT, dPar2, dPar3, dAug, dRaise, dFor, dYes, dLc, dels, del, put, nth, startN, dFrz, dIx, dPart, dNoP, dSl, dApp, dPut, dM1, dFmt, dJs, dJoined, dIsi, dRg1, dRg2, dLsI, dTpI, dStI, dZip, dEnL, dLsRg1, dLsRg2, dNewK, dNewT, dOneT, dSetSort, dLsZip, dNewCan, oAdd, oSub, oMul, oDiv, oMod, oPow, oLt, oLe, oGt, oGe, oIs, oIsNot, oNeg, oIAdd, D.isN, bLen, bInt, bStr, bAbs, bBool, bList, bTuple, D.ty, D.isInt, D.isBool, D.isStr, D.isTup, D.isLst, List.map_cons, List.map_nil, List.length_cons, List.length_nil, List.replicate_succ, List.replicate_zero, List.cons_append, List.nil_append, Option.isSome_some, if_true, if_false, Bool.false_eq_true, reduceIte, Nat.reduceAdd, Nat.reduceSub, Bool.not_true, Bool.not_false, true_and, and_true]
  refine needH ok (needH ok2 ?_)
  simp only [Hs.d]
  refine ⟨_, _, rfl, ix0 .., _, _, rfl, ix0 .., wkZ_ok (wkZ_wk ok.aw), wkZ_ok (wkZ_wk ok2.aw), ?_⟩
  rw [eqv_wk]
  by_cases hw : h.work = g.work
  · rw [decide_eq_true hw]
    simp only [dVar, dC, dOp, dUn, dTst, dAnd, dOr, dNot, dAndV, dOrV, dNotV, dIfE, dNil, dCons, dTup, dLst, dNew, dCall, dB, dChain, dNext, dSeq, dDrop, dRet, dRetN, dIf, dAsg, gN, gSeq, gT, dPar2, dPar3, dAug, dRaise, dFor, dYes, dLc, dels, del, put, nth, startN, dFrz, dIx, dPart, dNoP, dSl, dApp, dPut, dM1, dFmt, dJs, dJoined, dIsi, dRg1, dRg2, dLsI, dTpI, dStI, dZip, dEnL, dLsRg1, dLsRg2, dNewK, dNewT, dOneT, dSetSort, dLsZip, dNewCan, oAdd, oSub, oMul, oDiv, oMod, oPow, oLt, oLe, oGt, oGe, oIs, oIsNot, oNeg, oIAdd, D.isN, bLen, bInt, bStr, bAbs, bBool, bList, bTuple, D.ty, D.isInt, D.isBool, D.isStr, D.isTup, D.isLst, List.map_cons, List.map_nil, List.length_cons, List.length_nil, List.replicate_succ, List.replicate_zero, List.cons_append, List.nil_append, Option.isSome_some, if_true, if_false, Bool.false_eq_true, reduceIte, Nat.reduceAdd, Nat.reduceSub, Bool.not_true, Bool.not_false, true_and, and_true]
    refine ⟨by decide, _, rfl, by decide, ?_⟩
    refine ⟨_, rfl, by rw [rgD_length]; decide, lc_map (fun d => .bl (decide (mdn g d.iv false ≤ mdn h d.iv false))) _ (fun d hd k hk => ?_) ?_⟩
    · obtain ⟨i, _, rfl⟩ := List.mem_map.mp hd
      simp only [dVar, dC, dOp, dUn, dTst, dAnd, dOr, dNot, dAndV, dOrV, dNotV, dIfE, dNil, dCons, dTup, dLst, dNew, dCall, dB, dChain, dNext, dSeq, dDrop, dRet, dRetN, dIf, dAsg, gN, gSeq, gT, dPar2, dPar3, dAug, dRaise, dFor, dYes, dLc, dels, del, put, nth, startN, dFrz, dIx, dPart, dNoP, dSl, dApp, dPut, dM1, dFmt, dJs, dJoined, dIsi, dRg1, dRg2, dLsI, dTpI, dStI, dZip, dEnL, dLsRg1, dLsRg2, dNewK, dNewT, dOneT, dSetSort, dLsZip, dNewCan, oAdd, oSub, oMul, oDiv, oMod, oPow, oLt, oLe, oGt, oGe, oIs, oIsNot, oNeg, oIAdd, D.isN, bLen, bInt, bStr, bAbs, bBool, bList, bTuple, D.ty, D.isInt, D.isBool, D.isStr, D.isTup, D.isLst, List.map_cons, List.map_nil, List.length_cons, List.length_nil, List.replicate_succ, List.replicate_zero, List.cons_append, List.nil_append, Option.isSome_some, if_true, if_false, Bool.false_eq_true, reduceIte, Nat.reduceAdd, Nat.reduceSub, Bool.not_true, Bool.not_false, true_and, and_true]
      exact ⟨h, _, _, ok, rfl, g, _, _, ok2, rfl, hk⟩
    · simp only [bAll]
      refine ⟨(rgD 0 7).map fun d => decide (mdn g d.iv false ≤ mdn h d.iv false), by simp only [List.map_map]; rfl, ?_⟩
      have e : ((rgD 0 7).map fun d => decide (mdn g d.iv false ≤ mdn h d.iv false)).all id = neverSlower h g := by
        unfold neverSlower rgD
        rw [List.map_map, List.all_map]
        congr 1
        funext i
        simp only [Function.comp, id, D.iv, Int.zero_add]
      rw [e]
      exact fg_self (q1 hw)
  · rw [decide_eq_false hw]
    simp only [dVar, dC, dOp, dUn, dTst, dAnd, dOr, dNot, dAndV, dOrV, dNotV, dIfE, dNil, dCons, dTup, dLst, dNew, dCall, dB, dChain, dNext, dSeq, dDrop, dRet, dRetN, dIf, dAsg, gN, gSeq, gT, dPar2, dPar3, dAug, dRaise, dFor, dYes, dLc, dels, del, put, nth, startN, dFrz, dIx, dPart, dNoP, dSl, dApp, dPut, dM1, dFmt, dJs, dJoined, dIsi, dRg1, dRg2, dLsI, dTpI, dStI, dZip, dEnL, dLsRg1, dLsRg2, dNewK, dNewT, dOneT, dSetSort, dLsZip, dNewCan, oAdd, oSub, oMul, oDiv, oMod, oPow, oLt, oLe, oGt, oGe, oIs, oIsNot, oNeg, oIAdd, D.isN, bLen, bInt, bStr, bAbs, bBool, bList, bTuple, D.ty, D.isInt, D.isBool, D.isStr, D.isTup, D.isLst, List.map_cons, List.map_nil, List.length_cons, List.length_nil, List.replicate_succ, List.replicate_zero, List.cons_append, List.nil_append, Option.isSome_some, if_true, if_false, Bool.false_eq_true, reduceIte, Nat.reduceAdd, Nat.reduceSub, Bool.not_true, Bool.not_false, true_and, and_true]
    exact fg_self (q2 hw)
end Dl
namespace Dl
open PySem
/-! # latest -/
def growsB (h : Hs) (most : Int) (wd : List Nat) : Bool := decide ((h.speed : Int) * ((h.run.length : Int) - min most ((wd.filter fun d => decide (d ∈ h.run)).length : Nat)) < h.work.length)
def S_grows : DSp := fun ds M Q R => ∃ (h : Hs) (most : Int) (wd : List Nat), h.Ok ∧ 0 ≤ most ∧ most ≤ 7 ∧ wd.length ≤ 7 ∧ ds = [h.d, .int most, .str (wk wd)] ∧ Q (.bl (growsB h most wd)) M
def t_grows : DTS := dSeq (dAsg (dB bMin (dCons (dVar 1) (dCons (dB bLen (dCons (dLc [4] (dStI (dVar 2)) (gN 4) (dTst (dOp (qIn false) (dVar 4) (dOp dIx (dVar 0) (dC (.int 1))))) (dVar 4)) (dNil))) (dNil)))) (gN 3)) (dRet (dOp oGt (dB bLen (dCons (dOp dIx (dVar 0) (dC (.int 0))) (dNil))) (dOp oMul (dOp dIx (dVar 0) (dC (.int 2))) (dOp oSub (dB bLen (dCons (dOp dIx (dVar 0) (dC (.int 1))) (dNil))) (dVar 3)))))
theorem kp_grows : Keeps S_grows 5 t_grows := by
  rintro ds M Q R ⟨h, most, wd, ok, m0, m7, hl, rfl, q⟩
  simp only [t_grows, dVar, dC, dOp, dUn, dTst, dAnd, dOr, dNot, dAndV, dOrV, dNotV, dIfE, dNil, dCons, dTup, dLst, dNew, dCall, dB, dChain, dNext, dSeq, dDrop, dRet, dRetN, dIf, dAsg, gN, gSeq, gT, dPar2, dPar3, dAug, dRaise, dFor, dYes, dLc, dels, del, put, nth, startN, dFrz, dIx, dPart, dNoP, dSl, dApp, dPut, dM1, dFmt, dJs, dJoined, dIsi, dRg1, dRg2, dLsI, dTpI, dStI, dZip, dEnL, dLsRg1, dLsRg2, dNewK, dNewT, dOneT, dSetSort, dLsZip, dNewCan, oAdd, oSub, oMul, oDiv, oMod, oPow, oLt, oLe, oGt, oGe, oIs, oIsNot, oNeg, oIAdd, D.isN, bLen, bInt, bStr, bAbs, bBool, bList, bTuple, D.ty, D.isInt, D.isBool, D.isStr, D.isTup, D.isLst, List.map_cons, List.map_nil, List.length_cons, List.length_nil, List.replicate_succ, List.replicate_zero, List.cons_append, List.nil_append, Option.isSome_some, if_true, if_false, Bool.false_eq_true, reduceIte, Nat.reduceAdd, Nat.reduceSub, Bool.not_true, Bool.not_false, true_and, and_true, Hs.d]
  refine ⟨_, rfl, by rw [wk_ch, List.length_map]; omega, ?_⟩
  rw [wk_ch]
  refine lc_pure (fun x => decide (x.fig ∈ h.run)) (fun x => x) _ _ (fun x hx k1 k2 h1 h2 => ?_) ?_
  · obtain ⟨d, hd, rfl⟩ := List.mem_map.mp hx
    rw [fig_fg] at h1 h2
    simp only [dVar, dC, dOp, dUn, dTst, dAnd, dOr, dNot, dAndV, dOrV, dNotV, dIfE, dNil, dCons, dTup, dLst, dNew, dCall, dB, dChain, dNext, dSeq, dDrop, dRet, dRetN, dIf, dAsg, gN, gSeq, gT, dPar2, dPar3, dAug, dRaise, dFor, dYes, dLc, dels, del, put, nth, startN, dFrz, dIx, dPart, dNoP, dSl, dApp, dPut, dM1, dFmt, dJs, dJoined, dIsi, dRg1, dRg2, dLsI, dTpI, dStI, dZip, dEnL, dLsRg1, dLsRg2, dNewK, dNewT, dOneT, dSetSort, dLsZip, dNewCan, oAdd, oSub, oMul, oDiv, oMod, oPow, oLt, oLe, oGt, oGe, oIs, oIsNot, oNeg, oIAdd, D.isN, bLen, bInt, bStr, bAbs, bBool, bList, bTuple, D.ty, D.isInt, D.isBool, D.isStr, D.isTup, D.isLst, List.map_cons, List.map_nil, List.length_cons, List.length_nil, List.replicate_succ, List.replicate_zero, List.cons_append, List.nil_append, Option.isSome_some, if_true, if_false, Bool.false_eq_true, reduceIte, Nat.reduceAdd, Nat.reduceSub, Bool.not_true, Bool.not_false, true_and, and_true]
    refine ⟨_, _, rfl, ix1 .., in_wk _ _ _ _ _ ?_⟩
    rw [xorf]
    dsimp only
    by_cases hm : d ∈ h.run
    · rw [decide_eq_true hm] at h1 ⊢; exact h1 rfl
    · rw [decide_eq_false hm] at h2 ⊢; exact h2 rfl
  · rw [List.nil_append, filt_fg _ (fun d => decide (d ∈ h.run)) _ (fun d _ => by rw [fig_fg])]
    simp only [dVar, dC, dOp, dUn, dTst, dAnd, dOr, dNot, dAndV, dOrV, dNotV, dIfE, dNil, dCons, dTup, dLst, dNew, dCall, dB, dChain, dNext, dSeq, dDrop, dRet, dRetN, dIf, dAsg, gN, gSeq, gT, dPar2, dPar3, dAug, dRaise, dFor, dYes, dLc, dels, del, put, nth, startN, dFrz, dIx, dPart, dNoP, dSl, dApp, dPut, dM1, dFmt, dJs, dJoined, dIsi, dRg1, dRg2, dLsI, dTpI, dStI, dZip, dEnL, dLsRg1, dLsRg2, dNewK, dNewT, dOneT, dSetSort, dLsZip, dNewCan, oAdd, oSub, oMul, oDiv, oMod, oPow, oLt, oLe, oGt, oGe, oIs, oIsNot, oNeg, oIAdd, D.isN, bLen, bInt, bStr, bAbs, bBool, bList, bTuple, D.ty, D.isInt, D.isBool, D.isStr, D.isTup, D.isLst, List.map_cons, List.map_nil, List.length_cons, List.length_nil, List.replicate_succ, List.replicate_zero, List.cons_append, List.nil_append, Option.isSome_some, if_true, if_false, Bool.false_eq_true, reduceIte, Nat.reduceAdd, Nat.reduceSub, Bool.not_true, Bool.not_false, true_and, and_true, bMin]
    rw [List.length_map, min_if]
    have h1 := ok.ar.len
    have h2 := ok.aw.len
    have h3 := ok.s3
    have h4 : (wd.filter fun d => decide (d ∈ h.run)).length ≤ 7 := Nat.le_trans (List.length_filter_le _ _) hl
    refine ⟨_, _, rfl, ix0 .., by rw [wk_length]; omega, _, _, rfl, ix2 .., _, _, rfl, ix1 .., by rw [wk_length]; omega, .inl (small_of (by omega) (by omega)), ?_⟩
    rw [wk_length, wk_length]
    exact fg_self q
def lateBy (h : Hs) (day waits : Int) : Int := 70000 + day - dayBy h (rb h (70000 + day + 1) - waits)
def S_late_by : DSp := fun ds M Q R => ∃ (h : Hs) (day waits : Int), h.Ok ∧ ds = [h.d, .int day, .int waits] ∧ Q (.int (lateBy h day waits)) M
def t_late_by : DTS := dSeq (dAsg (dOp oSub (dCall S_rounds_before (dCons (dVar 0) (dCons (dOp oAdd (dOp oAdd (dC (.int 70000)) (dVar 1)) (dC (.int 1))) (dNil)))) (dVar 2)) (gN 3)) (dRet (dOp oSub (dOp oAdd (dC (.int 70000)) (dVar 1)) (dCall S_day_by (dCons (dVar 0) (dCons (dVar 3) (dNil))))))
theorem kp_late_by : Keeps S_late_by 4 t_late_by := by
  rintro ds M Q R ⟨h, day, waits, ok, rfl, q⟩
  simp only [t_late_by, dVar, dC, dOp, dUn, dTst, dAnd, dOr, dNot, dAndV, dOrV, dNotV, dIfE, dNil, dCons, dTup, dLst, dNew, dCall, dB, dChain, dNext, dSeq, dDrop, dRet, dRetN, dIf, dAsg, gN, gSeq, gT, dPar2, dPar3, dAug, dRaise, dFor, dYes, dLc, dels, del, put, nth, startN, dFrz, dIx, dPart, dNoP, dSl, dApp, dPut, dM1, dFmt, dJs, dJoined, dIsi, dRg1, dRg2, dLsI, dTpI, dStI, dZip, dEnL, dLsRg1, dLsRg2, dNewK, dNewT, dOneT, dSetSort, dLsZip, dNewCan, oAdd, oSub, oMul, oDiv, oMod, oPow, oLt, oLe, oGt, oGe, oIs, oIsNot, oNeg, oIAdd, D.isN, bLen, bInt, bStr, bAbs, bBool, bList, bTuple, D.ty, D.isInt, D.isBool, D.isStr, D.isTup, D.isLst, List.map_cons, List.map_nil, List.length_cons, List.length_nil, List.replicate_succ, List.replicate_zero, List.cons_append, List.nil_append, Option.isSome_some, if_true, if_false, Bool.false_eq_true, reduceIte, Nat.reduceAdd, Nat.reduceSub, Bool.not_true, Bool.not_false, true_and, and_true]
  exact ⟨h, _, ok, rfl, h, _, ok, rfl, fg_self q⟩
abbrev T3 := Int × Int × Int
def tD (p : T3) : D := .tup [.int p.1, .int p.2.1, .int p.2.2]
def tK (p : T3) : List L2.Key := [.inl p.1, .inl p.2.1, .inl p.2.2]
def rD (p : T3 × Int) : D := .tup [tD p.1, .int p.2]
def nx1 (h : Hs) (s : T3) (hol : Bool) : T3 × Int :=
  (((s.1 + 1) % 7, s.2.1 + bo h s.1 - min (s.2.1 + bo h s.1) (mdn h s.1 hol), (if s.1 = 0 then 0 else s.2.2) + (if hol then 1 else 0)), if 0 < min (s.2.1 + bo h s.1) (mdn h s.1 hol) then lateBy h s.1 (s.2.1 + bo h s.1) else 0)
def mayH (most : Int) (wd : List Nat) (s : T3) : Bool := decide (s.1.toNat ∈ wd) && decide ((if s.1 = 0 then 0 else s.2.2) < most)
def nexts (h : Hs) (most : Int) (wd : List Nat) (s : T3) : List (T3 × Int) := nx1 h s false :: if mayH most wd s = true then [nx1 h s true] else []
def In7 (s : T3) : Prop := 0 ≤ s.1 ∧ s.1 < 7
def S_next_stands : DSp := fun ds M Q R => ∃ (h : Hs) (s : T3) (most : Int) (wd : List Nat), h.Ok ∧ In7 s ∧ ds = [h.d, tD s, .int most, .str (wk wd)] ∧ Q (.lst ((nexts h most wd s).map rD)) M
def t_next_stands : DTS := dSeq (dAsg (dVar 1) (gT [gN 4, gN 5, gN 6])) (dSeq (dIf (dTst (dOp oEq (dVar 4) (dC (.int 0)))) (dAsg (dC (.int 0)) (gN 6)) (dNext)) (dSeq (dAug 5 oIAdd (dCall S_begins_on (dCons (dVar 0) (dCons (dVar 4) (dNil))))) (dSeq (dAsg (dNew (dNil)) (gN 7)) (dSeq (dFor (dTpI (dTup (dCons (dC (.bl false)) (dCons (dC (.bl true)) (dNil))))) (gN 8) (dIf (dOr (dNot (dTst (dVar 8))) (dAnd (dTst (dOp (qIn false) (dB bStr (dCons (dVar 4) (dNil))) (dVar 3))) (dTst (dOp oLt (dVar 6) (dVar 2))))) (dSeq (dAsg (dB bMin (dCons (dVar 5) (dCons (dCall S_most_done (dCons (dVar 0) (dCons (dVar 4) (dCons (dVar 8) (dNil))))) (dNil)))) (gN 9)) (dSeq (dAsg (dIfE (dTst (dOp oGt (dVar 9) (dC (.int 0)))) (dCall S_late_by (dCons (dVar 0) (dCons (dVar 4) (dCons (dVar 5) (dNil))))) (dC (.int 0))) (gN 10)) (dDrop (dApp (dVar 7) (dTup (dCons (dTup (dCons (dOp oMod (dOp oAdd (dVar 4) (dC (.int 1))) (dC (.int 7))) (dCons (dOp oSub (dVar 5) (dVar 9)) (dCons (dOp oAdd (dVar 6) (dB bInt (dCons (dVar 8) (dNil)))) (dNil))))) (dCons (dVar 10) (dNil)))))))) (dNext))) (dRet (dFrz (dVar 7)))))))
theorem str_fg {i : Int} (h0 : 0 ≤ i) (h1 : i < 7) : (toString i : Str) = fg i.toNat := by
  have e : i = 0 ∨ i = 1 ∨ i = 2 ∨ i = 3 ∨ i = 4 ∨ i = 5 ∨ i = 6 := by omega
  rcases e with e | e | e | e | e | e | e <;> (subst e; decide +kernel)
def acc3 (a b c : List D) : Nat → List D
  | 0 => a
  | 1 => b
  | _ => c
theorem log_small {i : Int} (h0 : 0 ≤ i) (h1 : i < 7) : i.natAbs.log2 < 1920 := by
  have e : i = 0 ∨ i = 1 ∨ i = 2 ∨ i = 3 ∨ i = 4 ∨ i = 5 ∨ i = 6 := by omega
  rcases e with e | e | e | e | e | e | e <;> (subst e; decide)
theorem kp_next_stands : Keeps S_next_stands 11 t_next_stands := by
  rintro ds M Q R ⟨h, s, most, wd, ok, ⟨s0, s7⟩, rfl, q⟩
  obtain ⟨wdy, w, mk⟩ := s
  simp only at s0 s7
  simp only [t_next_stands, dVar, dC, dOp, dUn, dTst, dAnd, dOr, dNot, dAndV, dOrV, dNotV, dIfE, dNil, dCons, dTup, dLst, dNew, dCall, dB, dChain, dNext, dSeq, dDrop, dRet, dRetN, dIf, dAsg, gN, gSeq, gT, dPar2, dPar3, dAug, dRaise, dFor, dYes, dLc, dels, del, put, nth, startN, dFrz, dIx, dPart, dNoP, dSl, dApp, dPut, dM1, dFmt, dJs, dJoined, dIsi, dRg1, dRg2, dLsI, dTpI, dStI, dZip, dEnL, dLsRg1, dLsRg2, dNewK, dNewT, dOneT, dSetSort, dLsZip, dNewCan, oAdd, oSub, oMul, oDiv, oMod, oPow, oLt, oLe, oGt, oGe, oIs, oIsNot, oNeg, oIAdd, D.isN, bLen, bInt, bStr, bAbs, bBool, bList, bTuple, D.ty, D.isInt, D.isBool, D.isStr, D.isTup, D.isLst, List.map_cons, List.map_nil, List.length_cons, List.length_nil, List.replicate_succ, List.replicate_zero, List.cons_append, List.nil_append, Option.isSome_some, if_true, if_false, Bool.false_eq_true, reduceIte, Nat.reduceAdd, Nat.reduceSub, Bool.not_true, Bool.not_false, true_and, and_true, tD, gSeq]
  refine ⟨ok_int _, ok_int _, ?_⟩
  rw [eqv_int]
  -- the rest, whatever marks are
  suffices rest : ∀ mk' : Int, mk' = (if wdy = 0 then 0 else mk) → (dSeq (dAug 5 oIAdd (dCall S_begins_on (dCons (dVar 0) (dCons (dVar 4) dNil)))) (dSeq (dAsg (dNew dNil) (gN 7)) (dSeq (dFor (dTpI (dTup (dCons (dC (.bl false)) (dCons (dC (.bl true)) dNil)))) (gN 8) (dIf (dOr (dNot (dTst (dVar 8))) (dAnd (dTst (dOp (qIn false) (dB bStr (dCons (dVar 4) dNil)) (dVar 3))) (dTst (dOp oLt (dVar 6) (dVar 2))))) (dSeq (dAsg (dB bMin (dCons (dVar 5) (dCons (dCall S_most_done (dCons (dVar 0) (dCons (dVar 4) (dCons (dVar 8) dNil)))) dNil))) (gN 9)) (dSeq (dAsg (dIfE (dTst (dOp oGt (dVar 9) (dC (.int 0)))) (dCall S_late_by (dCons (dVar 0) (dCons (dVar 4) (dCons (dVar 5) dNil)))) (dC (.int 0))) (gN 10)) (dDrop (dApp (dVar 7) (dTup (dCons (dTup (dCons (dOp oMod (dOp oAdd (dVar 4) (dC (.int 1))) (dC (.int 7))) (dCons (dOp oSub (dVar 5) (dVar 9)) (dCons (dOp oAdd (dVar 6) (dB bInt (dCons (dVar 8) dNil))) dNil)))) (dCons (dVar 10) dNil))))))) dNext)) (dRet (dFrz (dVar 7))))))
      { nx := fun _ M' => Fg M' (Q .non), rt := fun d M' => Fg M' (Q d) } [some h.d, some (.tup [.int wdy, .int w, .int mk]), some (.int most), some (.str (wk wd)), some (.int wdy), some (.int w), some (.int mk'), none, none, none, none] M (fun ex _ M' => Fg M' (R ex)) from by
    by_cases hz : wdy = 0
    · rw [decide_eq_true hz]
      simp only [if_true]
      have := rest 0 (by rw [if_pos hz])
      simpa only [dVar, dC, dOp, dUn, dTst, dAnd, dOr, dNot, dAndV, dOrV, dNotV, dIfE, dNil, dCons, dTup, dLst, dNew, dCall, dB, dChain, dNext, dSeq, dDrop, dRet, dRetN, dIf, dAsg, gN, gSeq, gT, dPar2, dPar3, dAug, dRaise, dFor, dYes, dLc, dels, del, put, nth, startN, dFrz, dIx, dPart, dNoP, dSl, dApp, dPut, dM1, dFmt, dJs, dJoined, dIsi, dRg1, dRg2, dLsI, dTpI, dStI, dZip, dEnL, dLsRg1, dLsRg2, dNewK, dNewT, dOneT, dSetSort, dLsZip, dNewCan, oAdd, oSub, oMul, oDiv, oMod, oPow, oLt, oLe, oGt, oGe, oIs, oIsNot, oNeg, oIAdd, D.isN, bLen, bInt, bStr, bAbs, bBool, bList, bTuple, D.ty, D.isInt, D.isBool, D.isStr, D.isTup, D.isLst, List.map_cons, List.map_nil, List.length_cons, List.length_nil, List.replicate_succ, List.replicate_zero, List.cons_append, List.nil_append, Option.isSome_some, if_true, if_false, Bool.false_eq_true, reduceIte, Nat.reduceAdd, Nat.reduceSub, Bool.not_true, Bool.not_false, true_and, and_true] using this
    · rw [decide_eq_false hz]
      simp only [Bool.false_eq_true, if_false]
      have := rest mk (by rw [if_neg hz])
      simpa only [dVar, dC, dOp, dUn, dTst, dAnd, dOr, dNot, dAndV, dOrV, dNotV, dIfE, dNil, dCons, dTup, dLst, dNew, dCall, dB, dChain, dNext, dSeq, dDrop, dRet, dRetN, dIf, dAsg, gN, gSeq, gT, dPar2, dPar3, dAug, dRaise, dFor, dYes, dLc, dels, del, put, nth, startN, dFrz, dIx, dPart, dNoP, dSl, dApp, dPut, dM1, dFmt, dJs, dJoined, dIsi, dRg1, dRg2, dLsI, dTpI, dStI, dZip, dEnL, dLsRg1, dLsRg2, dNewK, dNewT, dOneT, dSetSort, dLsZip, dNewCan, oAdd, oSub, oMul, oDiv, oMod, oPow, oLt, oLe, oGt, oGe, oIs, oIsNot, oNeg, oIAdd, D.isN, bLen, bInt, bStr, bAbs, bBool, bList, bTuple, D.ty, D.isInt, D.isBool, D.isStr, D.isTup, D.isLst, List.map_cons, List.map_nil, List.length_cons, List.length_nil, List.replicate_succ, List.replicate_zero, List.cons_append, List.nil_append, Option.isSome_some, if_true, if_false, Bool.false_eq_true, reduceIte, Nat.reduceAdd, Nat.reduceSub, Bool.not_true, Bool.not_false, true_and, and_true] using this
  intro mk' emk
  simp only [dVar, dC, dOp, dUn, dTst, dAnd, dOr, dNot, dAndV, dOrV, dNotV, dIfE, dNil, dCons, dTup, dLst, dNew, dCall, dB, dChain, dNext, dSeq, dDrop, dRet, dRetN, dIf, dAsg, gN, gSeq, gT, dPar2, dPar3, dAug, dRaise, dFor, dYes, dLc, dels, del, put, nth, startN, dFrz, dIx, dPart, dNoP, dSl, dApp, dPut, dM1, dFmt, dJs, dJoined, dIsi, dRg1, dRg2, dLsI, dTpI, dStI, dZip, dEnL, dLsRg1, dLsRg2, dNewK, dNewT, dOneT, dSetSort, dLsZip, dNewCan, oAdd, oSub, oMul, oDiv, oMod, oPow, oLt, oLe, oGt, oGe, oIs, oIsNot, oNeg, oIAdd, D.isN, bLen, bInt, bStr, bAbs, bBool, bList, bTuple, D.ty, D.isInt, D.isBool, D.isStr, D.isTup, D.isLst, List.map_cons, List.map_nil, List.length_cons, List.length_nil, List.replicate_succ, List.replicate_zero, List.cons_append, List.nil_append, Option.isSome_some, if_true, if_false, Bool.false_eq_true, reduceIte, Nat.reduceAdd, Nat.reduceSub, Bool.not_true, Bool.not_false, true_and, and_true]
  refine ⟨h, wdy, ok, rfl, ⟨by decide, fun p hp => ⟨by decide, _, rfl, ?_⟩⟩⟩
  have cls : Fg ((p, .lst ((nexts h most wd (wdy, w, mk)).map rD)) :: M) (Q (.lst ((nexts h most wd (wdy, w, mk)).map rD))) := fg_drop (fg_self q)
  refine loop_inv (fun i ρ M' => ∃ o8 o9 o10, ρ = [some h.d, some (.tup [.int wdy, .int w, .int mk]), some (.int most), some (.str (wk wd)), some (.int wdy), some (.int (w + bo h wdy)), some (.int mk'), some (.obj p), o8, o9, o10] ∧
    M' = (p, .lst (acc3 [] [rD (nx1 h (wdy, w, mk) false)] ((nexts h most wd (wdy, w, mk)).map rD) i)) :: M) _ ⟨_, _, _, rfl, rfl⟩ ?_ ?_
  · rintro i d ρ M' N hd ⟨o8, o9, o10, rfl, rfl⟩ hN
    -- the one that is added
    have add : ∀ (rt : DQ) (bk ct : Dl.Env → Mem → Prop) (hol : Bool) (acc : List D), acc.length ≤ 5 → (∀ o9 o10, N [some h.d, some (.tup [.int wdy, .int w, .int mk]), some (.int most), some (.str (wk wd)), some (.int wdy), some (.int (w + bo h wdy)), some (.int mk'), some (.obj p), some (.bl hol), o9, o10] ((p, .lst (acc ++ [rD (nx1 h (wdy, w, mk) hol)])) :: M)) →
        (dSeq (dAsg (dB bMin (dCons (dVar 5) (dCons (dCall S_most_done (dCons (dVar 0) (dCons (dVar 4) (dCons (dVar 8) dNil)))) dNil))) (gN 9)) (dSeq (dAsg (dIfE (dTst (dOp oGt (dVar 9) (dC (.int 0)))) (dCall S_late_by (dCons (dVar 0) (dCons (dVar 4) (dCons (dVar 5) dNil)))) (dC (.int 0))) (gN 10)) (dDrop (dApp (dVar 7) (dTup (dCons (dTup (dCons (dOp oMod (dOp oAdd (dVar 4) (dC (.int 1))) (dC (.int 7))) (dCons (dOp oSub (dVar 5) (dVar 9)) (dCons (dOp oAdd (dVar 6) (dB bInt (dCons (dVar 8) dNil))) dNil)))) (dCons (dVar 10) dNil)))))))
          { nx := N, rt := rt, bk := bk, ct := ct } [some h.d, some (.tup [.int wdy, .int w, .int mk]), some (.int most), some (.str (wk wd)), some (.int wdy), some (.int (w + bo h wdy)), some (.int mk'), some (.obj p), some (.bl hol), o9, o10] ((p, .lst acc) :: M) (fun ex _ M' => Fg M' (R ex)) := fun rt bk ct hol acc hl hN => by
      simp only [dVar, dC, dOp, dUn, dTst, dAnd, dOr, dNot, dAndV, dOrV, dNotV, dIfE, dNil, dCons, dTup, dLst, dNew, dCall, dB, dChain, dNext, dSeq, dDrop, dRet, dRetN, dIf, dAsg, gN, gSeq, gT, dPar2, dPar3, dAug, dRaise, dFor, dYes, dLc, dels, del, put, nth, startN, dFrz, dIx, dPart, dNoP, dSl, dApp, dPut, dM1, dFmt, dJs, dJoined, dIsi, dRg1, dRg2, dLsI, dTpI, dStI, dZip, dEnL, dLsRg1, dLsRg2, dNewK, dNewT, dOneT, dSetSort, dLsZip, dNewCan, oAdd, oSub, oMul, oDiv, oMod, oPow, oLt, oLe, oGt, oGe, oIs, oIsNot, oNeg, oIAdd, D.isN, bLen, bInt, bStr, bAbs, bBool, bList, bTuple, D.ty, D.isInt, D.isBool, D.isStr, D.isTup, D.isLst, List.map_cons, List.map_nil, List.length_cons, List.length_nil, List.replicate_succ, List.replicate_zero, List.cons_append, List.nil_append, Option.isSome_some, if_true, if_false, Bool.false_eq_true, reduceIte, Nat.reduceAdd, Nat.reduceSub, Bool.not_true, Bool.not_false, true_and, and_true]
      refine ⟨h, _, _, ok, rfl, ?_⟩
      simp only [bMin]
      rw [min_if]
      have fin : ∀ l : Int, l = (if 0 < min (w + bo h wdy) (mdn h wdy hol) then lateBy h wdy (w + bo h wdy) else 0) → N [some h.d, some (.tup [.int wdy, .int w, .int mk]), some (.int most), some (.str (wk wd)), some (.int wdy), some (.int (w + bo h wdy)), some (.int mk'), some (.obj p), some (.bl hol), some (.int (min (w + bo h wdy) (mdn h wdy hol))), some (.int l)] ((p, .lst (acc ++ [.tup [.tup [.int ((wdy + 1) % 7), .int (w + bo h wdy - min (w + bo h wdy) (mdn h wdy hol)), .int (mk' + if hol = true then 1 else 0)], .int l]])) :: M) := fun l el => by
        have := hN (some (.int (min (w + bo h wdy) (mdn h wdy hol)))) (some (.int l))
        unfold nx1 rD tD at this
        simp only [← emk, ← el] at this
        exact this
      by_cases hd0 : 0 < min (w + bo h wdy) (mdn h wdy hol)
      · rw [decide_eq_true hd0]
        simp only [dVar, dC, dOp, dUn, dTst, dAnd, dOr, dNot, dAndV, dOrV, dNotV, dIfE, dNil, dCons, dTup, dLst, dNew, dCall, dB, dChain, dNext, dSeq, dDrop, dRet, dRetN, dIf, dAsg, gN, gSeq, gT, dPar2, dPar3, dAug, dRaise, dFor, dYes, dLc, dels, del, put, nth, startN, dFrz, dIx, dPart, dNoP, dSl, dApp, dPut, dM1, dFmt, dJs, dJoined, dIsi, dRg1, dRg2, dLsI, dTpI, dStI, dZip, dEnL, dLsRg1, dLsRg2, dNewK, dNewT, dOneT, dSetSort, dLsZip, dNewCan, oAdd, oSub, oMul, oDiv, oMod, oPow, oLt, oLe, oGt, oGe, oIs, oIsNot, oNeg, oIAdd, D.isN, bLen, bInt, bStr, bAbs, bBool, bList, bTuple, D.ty, D.isInt, D.isBool, D.isStr, D.isTup, D.isLst, List.map_cons, List.map_nil, List.length_cons, List.length_nil, List.replicate_succ, List.replicate_zero, List.cons_append, List.nil_append, Option.isSome_some, if_true, if_false, Bool.false_eq_true, reduceIte, Nat.reduceAdd, Nat.reduceSub, Bool.not_true, Bool.not_false, true_and, and_true]
        refine ⟨h, _, _, ok, rfl, p, acc, rfl, mget_self, by decide, by decide, by decide, acc, mget_self, by omega, ?_⟩
        rw [mset_cons_self]
        exact fin _ (by rw [if_pos hd0])
      · rw [decide_eq_false hd0]
        simp only [dVar, dC, dOp, dUn, dTst, dAnd, dOr, dNot, dAndV, dOrV, dNotV, dIfE, dNil, dCons, dTup, dLst, dNew, dCall, dB, dChain, dNext, dSeq, dDrop, dRet, dRetN, dIf, dAsg, gN, gSeq, gT, dPar2, dPar3, dAug, dRaise, dFor, dYes, dLc, dels, del, put, nth, startN, dFrz, dIx, dPart, dNoP, dSl, dApp, dPut, dM1, dFmt, dJs, dJoined, dIsi, dRg1, dRg2, dLsI, dTpI, dStI, dZip, dEnL, dLsRg1, dLsRg2, dNewK, dNewT, dOneT, dSetSort, dLsZip, dNewCan, oAdd, oSub, oMul, oDiv, oMod, oPow, oLt, oLe, oGt, oGe, oIs, oIsNot, oNeg, oIAdd, D.isN, bLen, bInt, bStr, bAbs, bBool, bList, bTuple, D.ty, D.isInt, D.isBool, D.isStr, D.isTup, D.isLst, List.map_cons, List.map_nil, List.length_cons, List.length_nil, List.replicate_succ, List.replicate_zero, List.cons_append, List.nil_append, Option.isSome_some, if_true, if_false, Bool.false_eq_true, reduceIte, Nat.reduceAdd, Nat.reduceSub, Bool.not_true, Bool.not_false, true_and, and_true]
        refine ⟨p, acc, rfl, mget_self, by decide, by decide, by decide, acc, mget_self, by omega, ?_⟩
        rw [mset_cons_self]
        exact fin _ (by rw [if_neg hd0])
    match i, hd with
    | 0, hd =>
      cases hd
      have := add (fun d M' => Fg M' (Q d)) (fun _ _ => True) N false [] (by simp) fun o9 o10 => hN _ _ ⟨_, o9, o10, rfl, rfl⟩
      simpa only [dVar, dC, dOp, dUn, dTst, dAnd, dOr, dNot, dAndV, dOrV, dNotV, dIfE, dNil, dCons, dTup, dLst, dNew, dCall, dB, dChain, dNext, dSeq, dDrop, dRet, dRetN, dIf, dAsg, gN, gSeq, gT, dPar2, dPar3, dAug, dRaise, dFor, dYes, dLc, dels, del, put, nth, startN, dFrz, dIx, dPart, dNoP, dSl, dApp, dPut, dM1, dFmt, dJs, dJoined, dIsi, dRg1, dRg2, dLsI, dTpI, dStI, dZip, dEnL, dLsRg1, dLsRg2, dNewK, dNewT, dOneT, dSetSort, dLsZip, dNewCan, oAdd, oSub, oMul, oDiv, oMod, oPow, oLt, oLe, oGt, oGe, oIs, oIsNot, oNeg, oIAdd, D.isN, bLen, bInt, bStr, bAbs, bBool, bList, bTuple, D.ty, D.isInt, D.isBool, D.isStr, D.isTup, D.isLst, List.map_cons, List.map_nil, List.length_cons, List.length_nil, List.replicate_succ, List.replicate_zero, List.cons_append, List.nil_append, Option.isSome_some, if_true, if_false, Bool.false_eq_true, reduceIte, Nat.reduceAdd, Nat.reduceSub, Bool.not_true, Bool.not_false, true_and, and_true, acc3] using this
    | 1, hd =>
      cases hd
      simp only [dVar, dC, dOp, dUn, dTst, dAnd, dOr, dNot, dAndV, dOrV, dNotV, dIfE, dNil, dCons, dTup, dLst, dNew, dCall, dB, dChain, dNext, dSeq, dDrop, dRet, dRetN, dIf, dAsg, gN, gSeq, gT, dPar2, dPar3, dAug, dRaise, dFor, dYes, dLc, dels, del, put, nth, startN, dFrz, dIx, dPart, dNoP, dSl, dApp, dPut, dM1, dFmt, dJs, dJoined, dIsi, dRg1, dRg2, dLsI, dTpI, dStI, dZip, dEnL, dLsRg1, dLsRg2, dNewK, dNewT, dOneT, dSetSort, dLsZip, dNewCan, oAdd, oSub, oMul, oDiv, oMod, oPow, oLt, oLe, oGt, oGe, oIs, oIsNot, oNeg, oIAdd, D.isN, bLen, bInt, bStr, bAbs, bBool, bList, bTuple, D.ty, D.isInt, D.isBool, D.isStr, D.isTup, D.isLst, List.map_cons, List.map_nil, List.length_cons, List.length_nil, List.replicate_succ, List.replicate_zero, List.cons_append, List.nil_append, Option.isSome_some, if_true, if_false, Bool.false_eq_true, reduceIte, Nat.reduceAdd, Nat.reduceSub, Bool.not_true, Bool.not_false, true_and, and_true, acc3]
      refine ⟨log_small s0 s7, ?_⟩
      rw [str_fg s0 s7]
      refine in_wk _ _ _ _ _ ?_
      rw [xorf]
      have hno : mayH most wd (wdy, w, mk) = false → N [some h.d, some (.tup [.int wdy, .int w, .int mk]), some (.int most), some (.str (wk wd)), some (.int wdy), some (.int (w + bo h wdy)), some (.int mk'), some (.obj p), some (.bl true), o9, o10] ((p, .lst [rD (nx1 h (wdy, w, mk) false)]) :: M) := fun e => hN _ _ ⟨_, _, _, rfl, by
        simp only [acc3]; unfold nexts; rw [e]; rfl⟩
      have hm : mayH most wd (wdy, w, mk) = (decide (wdy.toNat ∈ wd) && decide (mk' < most)) := by rw [emk]; rfl
      cases h1 : decide (wdy.toNat ∈ wd) with
      | false =>
        rw [h1, Bool.false_and] at hm
        simp only [dVar, dC, dOp, dUn, dTst, dAnd, dOr, dNot, dAndV, dOrV, dNotV, dIfE, dNil, dCons, dTup, dLst, dNew, dCall, dB, dChain, dNext, dSeq, dDrop, dRet, dRetN, dIf, dAsg, gN, gSeq, gT, dPar2, dPar3, dAug, dRaise, dFor, dYes, dLc, dels, del, put, nth, startN, dFrz, dIx, dPart, dNoP, dSl, dApp, dPut, dM1, dFmt, dJs, dJoined, dIsi, dRg1, dRg2, dLsI, dTpI, dStI, dZip, dEnL, dLsRg1, dLsRg2, dNewK, dNewT, dOneT, dSetSort, dLsZip, dNewCan, oAdd, oSub, oMul, oDiv, oMod, oPow, oLt, oLe, oGt, oGe, oIs, oIsNot, oNeg, oIAdd, D.isN, bLen, bInt, bStr, bAbs, bBool, bList, bTuple, D.ty, D.isInt, D.isBool, D.isStr, D.isTup, D.isLst, List.map_cons, List.map_nil, List.length_cons, List.length_nil, List.replicate_succ, List.replicate_zero, List.cons_append, List.nil_append, Option.isSome_some, if_true, if_false, Bool.false_eq_true, reduceIte, Nat.reduceAdd, Nat.reduceSub, Bool.not_true, Bool.not_false, true_and, and_true]
        simpa using hno hm
      | true =>
        rw [h1, Bool.true_and] at hm
        simp only [dVar, dC, dOp, dUn, dTst, dAnd, dOr, dNot, dAndV, dOrV, dNotV, dIfE, dNil, dCons, dTup, dLst, dNew, dCall, dB, dChain, dNext, dSeq, dDrop, dRet, dRetN, dIf, dAsg, gN, gSeq, gT, dPar2, dPar3, dAug, dRaise, dFor, dYes, dLc, dels, del, put, nth, startN, dFrz, dIx, dPart, dNoP, dSl, dApp, dPut, dM1, dFmt, dJs, dJoined, dIsi, dRg1, dRg2, dLsI, dTpI, dStI, dZip, dEnL, dLsRg1, dLsRg2, dNewK, dNewT, dOneT, dSetSort, dLsZip, dNewCan, oAdd, oSub, oMul, oDiv, oMod, oPow, oLt, oLe, oGt, oGe, oIs, oIsNot, oNeg, oIAdd, D.isN, bLen, bInt, bStr, bAbs, bBool, bList, bTuple, D.ty, D.isInt, D.isBool, D.isStr, D.isTup, D.isLst, List.map_cons, List.map_nil, List.length_cons, List.length_nil, List.replicate_succ, List.replicate_zero, List.cons_append, List.nil_append, Option.isSome_some, if_true, if_false, Bool.false_eq_true, reduceIte, Nat.reduceAdd, Nat.reduceSub, Bool.not_true, Bool.not_false, true_and, and_true]
        cases h2 : decide (mk' < most) with
        | false =>
          rw [h2] at hm
          simp only [dVar, dC, dOp, dUn, dTst, dAnd, dOr, dNot, dAndV, dOrV, dNotV, dIfE, dNil, dCons, dTup, dLst, dNew, dCall, dB, dChain, dNext, dSeq, dDrop, dRet, dRetN, dIf, dAsg, gN, gSeq, gT, dPar2, dPar3, dAug, dRaise, dFor, dYes, dLc, dels, del, put, nth, startN, dFrz, dIx, dPart, dNoP, dSl, dApp, dPut, dM1, dFmt, dJs, dJoined, dIsi, dRg1, dRg2, dLsI, dTpI, dStI, dZip, dEnL, dLsRg1, dLsRg2, dNewK, dNewT, dOneT, dSetSort, dLsZip, dNewCan, oAdd, oSub, oMul, oDiv, oMod, oPow, oLt, oLe, oGt, oGe, oIs, oIsNot, oNeg, oIAdd, D.isN, bLen, bInt, bStr, bAbs, bBool, bList, bTuple, D.ty, D.isInt, D.isBool, D.isStr, D.isTup, D.isLst, List.map_cons, List.map_nil, List.length_cons, List.length_nil, List.replicate_succ, List.replicate_zero, List.cons_append, List.nil_append, Option.isSome_some, if_true, if_false, Bool.false_eq_true, reduceIte, Nat.reduceAdd, Nat.reduceSub, Bool.not_true, Bool.not_false, true_and, and_true]
          simpa using hno hm
        | true =>
          rw [h2] at hm
          have := add (fun d M' => Fg M' (Q d)) (fun _ _ => True) N true [rD (nx1 h (wdy, w, mk) false)] (by simp) fun o9 o10 => hN _ _ ⟨_, o9, o10, rfl, by
            simp only [acc3]; unfold nexts; rw [hm]; rfl⟩
          simpa only [dVar, dC, dOp, dUn, dTst, dAnd, dOr, dNot, dAndV, dOrV, dNotV, dIfE, dNil, dCons, dTup, dLst, dNew, dCall, dB, dChain, dNext, dSeq, dDrop, dRet, dRetN, dIf, dAsg, gN, gSeq, gT, dPar2, dPar3, dAug, dRaise, dFor, dYes, dLc, dels, del, put, nth, startN, dFrz, dIx, dPart, dNoP, dSl, dApp, dPut, dM1, dFmt, dJs, dJoined, dIsi, dRg1, dRg2, dLsI, dTpI, dStI, dZip, dEnL, dLsRg1, dLsRg2, dNewK, dNewT, dOneT, dSetSort, dLsZip, dNewCan, oAdd, oSub, oMul, oDiv, oMod, oPow, oLt, oLe, oGt, oGe, oIs, oIsNot, oNeg, oIAdd, D.isN, bLen, bInt, bStr, bAbs, bBool, bList, bTuple, D.ty, D.isInt, D.isBool, D.isStr, D.isTup, D.isLst, List.map_cons, List.map_nil, List.length_cons, List.length_nil, List.replicate_succ, List.replicate_zero, List.cons_append, List.nil_append, Option.isSome_some, if_true, if_false, Bool.false_eq_true, reduceIte, Nat.reduceAdd, Nat.reduceSub, Bool.not_true, Bool.not_false, true_and, and_true] using this
    | i + 2, hd => simp at hd
  · rintro ρ M' ⟨o8, o9, o10, rfl, rfl⟩
    simp only [dVar, dC, dOp, dUn, dTst, dAnd, dOr, dNot, dAndV, dOrV, dNotV, dIfE, dNil, dCons, dTup, dLst, dNew, dCall, dB, dChain, dNext, dSeq, dDrop, dRet, dRetN, dIf, dAsg, gN, gSeq, gT, dPar2, dPar3, dAug, dRaise, dFor, dYes, dLc, dels, del, put, nth, startN, dFrz, dIx, dPart, dNoP, dSl, dApp, dPut, dM1, dFmt, dJs, dJoined, dIsi, dRg1, dRg2, dLsI, dTpI, dStI, dZip, dEnL, dLsRg1, dLsRg2, dNewK, dNewT, dOneT, dSetSort, dLsZip, dNewCan, oAdd, oSub, oMul, oDiv, oMod, oPow, oLt, oLe, oGt, oGe, oIs, oIsNot, oNeg, oIAdd, D.isN, bLen, bInt, bStr, bAbs, bBool, bList, bTuple, D.ty, D.isInt, D.isBool, D.isStr, D.isTup, D.isLst, List.map_cons, List.map_nil, List.length_cons, List.length_nil, List.replicate_succ, List.replicate_zero, List.cons_append, List.nil_append, Option.isSome_some, if_true, if_false, Bool.false_eq_true, reduceIte, Nat.reduceAdd, Nat.reduceSub, Bool.not_true, Bool.not_false, true_and, and_true, mget_self, mdel_cons_self, acc3]
    exact fg_self q
end Dl
namespace Dl
open PySem
/-! # greatest_by, latest, most_waiting -/
section
variable {α : Type} [DecidableEq α] (K : α → List L2.Key)
def kvG (l : List α) : List (List L2.Key × D) := l.map fun p => (K p, .bl true)
def kputG (l : List α) (p : α) : List α := if p ∈ l then l else l ++ [p]
variable {K}
theorem any_kvG (inj : ∀ {p q : α}, K p = K q → p = q) (l : List α) (p : α) : ((kvG K l).any fun kv => decide (kv.1 = K p)) = decide (p ∈ l) := by
  unfold kvG
  rw [List.any_map]
  induction l with
  | nil => rfl
  | cons a l ih =>
    rw [List.any_cons, ih]
    by_cases h : a = p
    · subst h; simp
    · have : ¬ K a = K p := fun e => h (inj e)
      simp only [Function.comp, decide_eq_false this, Bool.false_or, List.mem_cons]
      apply decide_eq_decide.mpr
      simp [Ne.symm h]
theorem putD_kvG (inj : ∀ {p q : α}, K p = K q → p = q) (l : List α) (p : α) : putD (kvG K l) (K p) (.bl true) = kvG K (kputG l p) := by
  unfold putD kputG
  rw [any_kvG inj]
  by_cases h : p ∈ l
  · rw [if_pos (decide_eq_true h), if_pos h]
    unfold kvG
    rw [List.map_map]
    apply List.map_congr_left
    intro a _
    simp only [Function.comp]
    split <;> rfl
  · rw [if_neg (by rw [decide_eq_false h]; exact Bool.false_ne_true), if_neg h]
    unfold kvG
    rw [List.map_append]; rfl
theorem look_kvG (inj : ∀ {p q : α}, K p = K q → p = q) (l : List α) (p : α) : (lookD (kvG K l) (K p)).isSome = decide (p ∈ l) := by
  unfold lookD
  rw [Option.isSome_map, ← any_kvG inj, Bool.eq_iff_iff, List.find?_isSome, List.any_eq_true]
end
theorem tK_inj {p q : T3} (h : tK p = tK q) : p = q := by
  obtain ⟨a, b, c⟩ := p; obtain ⟨d, e, f⟩ := q
  simp only [tK, List.cons.injEq, Sum.inl.injEq, and_true] at h
  rw [h.1, h.2.1, h.2.2]
/-- what is known, what comes next, the greatest lateness, the most that wait -/
structure G4 where
  kn : List T3
  lt : List T3
  late : Int
  wt : Int
def gone (s : G4) (x : T3 × Int) : G4 := if x.1 ∈ s.kn then { s with late := max s.late x.2, wt := max s.wt x.1.2.1 } else ⟨s.kn ++ [x.1], s.lt ++ [x.1], max s.late x.2, max s.wt x.1.2.1⟩
def grow1 (h : Hs) (most : Int) (wd : List Nat) (s : G4) (st : T3) : G4 := (nexts h most wd st).foldl gone s
def grow (h : Hs) (most : Int) (wd : List Nat) (line : List T3) (s : G4) : G4 := line.foldl (grow1 h most wd) s
def gb (h : Hs) (most : Int) (wd : List Nat) : Nat → List T3 → List T3 → Int → Int → Option (Int × Int)
  | 0, _, line, late, wt => if line = [] then some (late, wt) else none
  | n + 1, kn, line, late, wt => if line = [] then some (late, wt) else
    if (grow h most wd line ⟨kn, [], late, wt⟩).kn.length ≤ 50000 then gb h most wd n (grow h most wd line ⟨kn, [], late, wt⟩).kn (grow h most wd line ⟨kn, [], late, wt⟩).lt (grow h most wd line ⟨kn, [], late, wt⟩).late (grow h most wd line ⟨kn, [], late, wt⟩).wt else none
def gbM (h : Hs) (most : Int) (wd : List Nat) (n : Nat) : Option (Option (Int × Int)) := if growsB h most wd = true then some none else (gb h most wd n [(0, 0, 0)] [(0, 0, 0)] 0 0).map some
def gD : Option (Int × Int) → D
  | none => .non
  | some (a, b) => .tup [.int a, .int b]
structure Kind (most : Int) (wd : List Nat) : Prop where
  m0 : 0 ≤ most
  m7 : most ≤ 7
  aw : Asc wd
def S_greatest_by : DSp := fun ds M Q R => ∃ (h : Hs) (most : Int) (wd : List Nat) (n : Nat) (r : Option (Int × Int)), h.Ok ∧ Kind most wd ∧ ds = [h.d, .int most, .str (wk wd)] ∧ gbM h most wd n = some r ∧ Q (gD r) M
def t_greatest_by : DTS := dSeq (dIf (dTst (dCall S_grows (dCons (dVar 0) (dCons (dVar 1) (dCons (dVar 2) (dNil)))))) (dRet (dC .non)) (dNext)) (dSeq (dAsg (dTup (dCons (dLst (dCons (dTup (dCons (dC (.int 0)) (dCons (dC (.int 0)) (dCons (dC (.int 0)) (dNil))))) (dNil))) (dCons (dOneT (dTup (dCons (dC (.int 0)) (dCons (dC (.int 0)) (dCons (dC (.int 0)) (dNil))))) (dC (.bl true))) (dCons (dC (.int 0)) (dCons (dC (.int 0)) (dNil)))))) (gT [gN 3, gN 4, gN 5, gN 6])) (dSeq (dWhile (dTst (dOp oNe (dVar 3) (dLst (dNil)))) (dSeq (dAsg (dNew (dNil)) (gN 7)) (dSeq (dFor (dLsI (dVar 3)) (gN 8) (dFor (dLsI (dCall S_next_stands (dCons (dVar 0) (dCons (dVar 8) (dCons (dVar 1) (dCons (dVar 2) (dNil))))))) (gT [gN 9, gN 10]) (dSeq (dPar2 5 6 (dCons (dB bMax (dCons (dVar 5) (dCons (dVar 10) (dNil)))) (dCons (dB bMax (dCons (dVar 6) (dCons (dOp dIx (dVar 9) (dC (.int 1))) (dNil)))) (dNil)))) (dIf (dTst (dOp (qIn true) (dVar 9) (dVar 4))) (dSeq (dPut (dVar 4) (dVar 9) (dC (.bl true))) (dDrop (dApp (dVar 7) (dVar 9)))) (dNext))))) (dAsg (dFrz (dVar 7)) (gN 3))))) (dRet (dTup (dCons (dVar 5) (dCons (dVar 6) (dNil)))))))
theorem gone_len (s : G4) (x : T3 × Int) : s.kn.length ≤ (gone s x).kn.length ∧ (gone s x).kn.length + s.lt.length = s.kn.length + (gone s x).lt.length := by
  unfold gone
  split
  · exact ⟨Nat.le_refl _, rfl⟩
  · simp only [List.length_append, List.length_singleton]; omega
theorem gones_len : ∀ (l : List (T3 × Int)) (s : G4), s.kn.length ≤ (l.foldl gone s).kn.length ∧ (l.foldl gone s).kn.length + s.lt.length = s.kn.length + (l.foldl gone s).lt.length
  | [], s => ⟨Nat.le_refl _, rfl⟩
  | x :: l, s => by
    have h1 := gone_len s x
    have h2 := gones_len l (gone s x)
    rw [List.foldl_cons]
    omega
theorem grow_len (h : Hs) (most : Int) (wd : List Nat) : ∀ (l : List T3) (s : G4), s.kn.length ≤ (grow h most wd l s).kn.length ∧ (grow h most wd l s).kn.length + s.lt.length = s.kn.length + (grow h most wd l s).lt.length
  | [], s => ⟨Nat.le_refl _, rfl⟩
  | x :: l, s => by
    have h1 := gones_len (nexts h most wd x) s
    have h2 := grow_len h most wd l (grow1 h most wd s x)
    unfold grow grow1 at h2 ⊢
    rw [List.foldl_cons]
    omega
theorem gone_in {s : G4} {x : T3 × Int} (hs : ∀ t ∈ s.lt, In7 t) (hx : In7 x.1) : ∀ t ∈ (gone s x).lt, In7 t := by
  unfold gone
  split
  · exact hs
  · intro t ht
    rcases List.mem_append.mp ht with z | z
    · exact hs t z
    · rw [List.mem_singleton.mp z]; exact hx
theorem nexts_in {h : Hs} {most : Int} {wd : List Nat} {s : T3} {x : T3 × Int} (hx : x ∈ nexts h most wd s) : In7 x.1 := by
  have all : ∀ hol, In7 (nx1 h s hol).1 := fun hol => ⟨by show 0 ≤ (s.1 + 1) % 7; omega, by show (s.1 + 1) % 7 < 7; omega⟩
  unfold nexts at hx
  rcases List.mem_cons.mp hx with e | e
  · rw [e]; exact all _
  · split at e
    · rw [List.mem_singleton.mp e]; exact all _
    · cases e
theorem foldl_take {α β : Type} (f : β → α → β) {l : List α} {i : Nat} {x : α} (e : l[i]? = some x) (s : β) : (l.take (i + 1)).foldl f s = f ((l.take i).foldl f s) x := by
  rw [List.take_succ, e, List.foldl_append]; rfl
theorem foldl_split {α β : Type} (f : β → α → β) (l : List α) (i : Nat) (s : β) : l.foldl f s = (l.drop i).foldl f ((l.take i).foldl f s) := by
  rw [← List.foldl_append, List.take_append_drop]
theorem nexts_len (h : Hs) (most : Int) (wd : List Nat) (s : T3) : (nexts h most wd s).length ≤ 2 := by
  unfold nexts; split <;> simp
theorem ok_ltD (l : List T3) : (D.lst (l.map tD)).ok := ok_lst fun d hd => by
  obtain ⟨p, _, rfl⟩ := List.mem_map.mp hd
  exact ⟨rfl, by show 1 ≤ 60; decide⟩
theorem ne_tD (l : List T3) : (D.lst (l.map tD)).eqv (.lst []) = decide (l = []) := by
  cases l with
  | nil => rfl
  | cons a l => simp [D.eqv, D.py, D.pyL, PyData.eqv, PyData.eqvAll]
theorem ix3 (a b c : Int) : L2.atI [D.int a, .int b, .int c] 1 = some (.int b) := rfl
theorem keyT_tD (p : T3) : (tD p).keyT = some (tK p) := rfl
theorem kp_greatest_by : Keeps S_greatest_by 11 t_greatest_by := by
  rintro ds M Q R ⟨h, most, wd, n, r, ok, kd, rfl, hr, q⟩
  simp only [t_greatest_by, dVar, dC, dOp, dUn, dTst, dAnd, dOr, dNot, dAndV, dOrV, dNotV, dIfE, dNil, dCons, dTup, dLst, dNew, dCall, dB, dChain, dNext, dSeq, dDrop, dRet, dRetN, dIf, dAsg, gN, gSeq, gT, dPar2, dPar3, dAug, dRaise, dFor, dYes, dLc, dels, del, put, nth, startN, dFrz, dIx, dPart, dNoP, dSl, dApp, dPut, dM1, dFmt, dJs, dJoined, dIsi, dRg1, dRg2, dLsI, dTpI, dStI, dZip, dEnL, dLsRg1, dLsRg2, dNewK, dNewT, dOneT, dSetSort, dLsZip, dNewCan, oAdd, oSub, oMul, oDiv, oMod, oPow, oLt, oLe, oGt, oGe, oIs, oIsNot, oNeg, oIAdd, D.isN, bLen, bInt, bStr, bAbs, bBool, bList, bTuple, D.ty, D.isInt, D.isBool, D.isStr, D.isTup, D.isLst, List.map_cons, List.map_nil, List.length_cons, List.length_nil, List.replicate_succ, List.replicate_zero, List.cons_append, List.nil_append, Option.isSome_some, if_true, if_false, Bool.false_eq_true, reduceIte, Nat.reduceAdd, Nat.reduceSub, Bool.not_true, Bool.not_false, true_and, and_true]
  refine ⟨h, most, wd, ok, kd.m0, kd.m7, kd.aw.len, rfl, ?_⟩
  dsimp only
  unfold gbM at hr
  cases hg : growsB h most wd with
  | true =>
    rw [hg, if_pos rfl] at hr
    cases hr
    simp only [dVar, dC, dOp, dUn, dTst, dAnd, dOr, dNot, dAndV, dOrV, dNotV, dIfE, dNil, dCons, dTup, dLst, dNew, dCall, dB, dChain, dNext, dSeq, dDrop, dRet, dRetN, dIf, dAsg, gN, gSeq, gT, dPar2, dPar3, dAug, dRaise, dFor, dYes, dLc, dels, del, put, nth, startN, dFrz, dIx, dPart, dNoP, dSl, dApp, dPut, dM1, dFmt, dJs, dJoined, dIsi, dRg1, dRg2, dLsI, dTpI, dStI, dZip, dEnL, dLsRg1, dLsRg2, dNewK, dNewT, dOneT, dSetSort, dLsZip, dNewCan, oAdd, oSub, oMul, oDiv, oMod, oPow, oLt, oLe, oGt, oGe, oIs, oIsNot, oNeg, oIAdd, D.isN, bLen, bInt, bStr, bAbs, bBool, bList, bTuple, D.ty, D.isInt, D.isBool, D.isStr, D.isTup, D.isLst, List.map_cons, List.map_nil, List.length_cons, List.length_nil, List.replicate_succ, List.replicate_zero, List.cons_append, List.nil_append, Option.isSome_some, if_true, if_false, Bool.false_eq_true, reduceIte, Nat.reduceAdd, Nat.reduceSub, Bool.not_true, Bool.not_false, true_and, and_true]
    exact fg_self q
  | false =>
    rw [hg, if_neg Bool.false_ne_true] at hr
    cases hgb : gb h most wd n [(0, 0, 0)] [(0, 0, 0)] 0 0 with
    | none => rw [hgb] at hr; cases hr
    | some ab =>
      rw [hgb] at hr
      cases hr
      simp only [dVar, dC, dOp, dUn, dTst, dAnd, dOr, dNot, dAndV, dOrV, dNotV, dIfE, dNil, dCons, dTup, dLst, dNew, dCall, dB, dChain, dNext, dSeq, dDrop, dRet, dRetN, dIf, dAsg, gN, gSeq, gT, dPar2, dPar3, dAug, dRaise, dFor, dYes, dLc, dels, del, put, nth, startN, dFrz, dIx, dPart, dNoP, dSl, dApp, dPut, dM1, dFmt, dJs, dJoined, dIsi, dRg1, dRg2, dLsI, dTpI, dStI, dZip, dEnL, dLsRg1, dLsRg2, dNewK, dNewT, dOneT, dSetSort, dLsZip, dNewCan, oAdd, oSub, oMul, oDiv, oMod, oPow, oLt, oLe, oGt, oGe, oIs, oIsNot, oNeg, oIAdd, D.isN, bLen, bInt, bStr, bAbs, bBool, bList, bTuple, D.ty, D.isInt, D.isBool, D.isStr, D.isTup, D.isLst, List.map_cons, List.map_nil, List.length_cons, List.length_nil, List.replicate_succ, List.replicate_zero, List.cons_append, List.nil_append, Option.isSome_some, if_true, if_false, Bool.false_eq_true, reduceIte, Nat.reduceAdd, Nat.reduceSub, Bool.not_true, Bool.not_false, true_and, and_true]
      refine ⟨by decide, by decide, fun p hp => ⟨by decide, [.inl 0, .inl 0, .inl 0], rfl, mget_self, ?_⟩⟩
      rw [mset_cons_self]
      refine ⟨by decide, ?_⟩
      refine while_inv (fun m ρ M' => ∃ (kn line : List T3) (late wt : Int) (o7 o8 o9 o10 : Option D), (∀ s ∈ line, In7 s) ∧ kn.length ≤ 50000 ∧ gb h most wd m kn line late wt = some ab ∧ ρ = [some h.d, some (.int most), some (.str (wk wd)), some (.lst (line.map tD)), some (.obj p), some (.int late), some (.int wt), o7, o8, o9, o10] ∧ M' = (p, .dT (kvG tK kn)) :: M) (m := n)
        ⟨[(0, 0, 0)], [(0, 0, 0)], 0, 0, none, none, none, none, fun s hs => by rw [List.mem_singleton.mp hs]; exact ⟨Int.le_refl _, by decide⟩, by decide, hgb, rfl, rfl⟩ ?_
      rintro m ρ M' N ⟨kn, line, late, wt, o7, o8, o9, o10, hin, hkn, hq, rfl, rfl⟩ hN
      simp only [dVar, dC, dOp, dUn, dTst, dAnd, dOr, dNot, dAndV, dOrV, dNotV, dIfE, dNil, dCons, dTup, dLst, dNew, dCall, dB, dChain, dNext, dSeq, dDrop, dRet, dRetN, dIf, dAsg, gN, gSeq, gT, dPar2, dPar3, dAug, dRaise, dFor, dYes, dLc, dels, del, put, nth, startN, dFrz, dIx, dPart, dNoP, dSl, dApp, dPut, dM1, dFmt, dJs, dJoined, dIsi, dRg1, dRg2, dLsI, dTpI, dStI, dZip, dEnL, dLsRg1, dLsRg2, dNewK, dNewT, dOneT, dSetSort, dLsZip, dNewCan, oAdd, oSub, oMul, oDiv, oMod, oPow, oLt, oLe, oGt, oGe, oIs, oIsNot, oNeg, oIAdd, D.isN, bLen, bInt, bStr, bAbs, bBool, bList, bTuple, D.ty, D.isInt, D.isBool, D.isStr, D.isTup, D.isLst, List.map_cons, List.map_nil, List.length_cons, List.length_nil, List.replicate_succ, List.replicate_zero, List.cons_append, List.nil_append, Option.isSome_some, if_true, if_false, Bool.false_eq_true, reduceIte, Nat.reduceAdd, Nat.reduceSub, Bool.not_true, Bool.not_false, true_and, and_true]
      refine ⟨by decide, ok_ltD line, ok_nil, ?_⟩
      rw [ne_tD]
      by_cases hl : line = []
      · subst hl
        have e : (late, wt) = ab := by
          cases m <;> (simp only [gb, if_true] at hq; exact Option.some.inj hq)
        subst e
        simp only [dVar, dC, dOp, dUn, dTst, dAnd, dOr, dNot, dAndV, dOrV, dNotV, dIfE, dNil, dCons, dTup, dLst, dNew, dCall, dB, dChain, dNext, dSeq, dDrop, dRet, dRetN, dIf, dAsg, gN, gSeq, gT, dPar2, dPar3, dAug, dRaise, dFor, dYes, dLc, dels, del, put, nth, startN, dFrz, dIx, dPart, dNoP, dSl, dApp, dPut, dM1, dFmt, dJs, dJoined, dIsi, dRg1, dRg2, dLsI, dTpI, dStI, dZip, dEnL, dLsRg1, dLsRg2, dNewK, dNewT, dOneT, dSetSort, dLsZip, dNewCan, oAdd, oSub, oMul, oDiv, oMod, oPow, oLt, oLe, oGt, oGe, oIs, oIsNot, oNeg, oIAdd, D.isN, bLen, bInt, bStr, bAbs, bBool, bList, bTuple, D.ty, D.isInt, D.isBool, D.isStr, D.isTup, D.isLst, List.map_cons, List.map_nil, List.length_cons, List.length_nil, List.replicate_succ, List.replicate_zero, List.cons_append, List.nil_append, Option.isSome_some, if_true, if_false, Bool.false_eq_true, reduceIte, Nat.reduceAdd, Nat.reduceSub, Bool.not_true, Bool.not_false, true_and, and_true, decide_true]
        exact ⟨by decide, fg_drop (fg_self q)⟩
      · rw [decide_eq_false hl]
        cases m with
        | zero => simp only [gb, if_neg hl] at hq; cases hq
        | succ m =>
          simp only [gb, if_neg hl] at hq
          by_cases hb : (grow h most wd line ⟨kn, [], late, wt⟩).kn.length ≤ 50000
          · rw [if_pos hb] at hq
            simp only [dVar, dC, dOp, dUn, dTst, dAnd, dOr, dNot, dAndV, dOrV, dNotV, dIfE, dNil, dCons, dTup, dLst, dNew, dCall, dB, dChain, dNext, dSeq, dDrop, dRet, dRetN, dIf, dAsg, gN, gSeq, gT, dPar2, dPar3, dAug, dRaise, dFor, dYes, dLc, dels, del, put, nth, startN, dFrz, dIx, dPart, dNoP, dSl, dApp, dPut, dM1, dFmt, dJs, dJoined, dIsi, dRg1, dRg2, dLsI, dTpI, dStI, dZip, dEnL, dLsRg1, dLsRg2, dNewK, dNewT, dOneT, dSetSort, dLsZip, dNewCan, oAdd, oSub, oMul, oDiv, oMod, oPow, oLt, oLe, oGt, oGe, oIs, oIsNot, oNeg, oIAdd, D.isN, bLen, bInt, bStr, bAbs, bBool, bList, bTuple, D.ty, D.isInt, D.isBool, D.isStr, D.isTup, D.isLst, List.map_cons, List.map_nil, List.length_cons, List.length_nil, List.replicate_succ, List.replicate_zero, List.cons_append, List.nil_append, Option.isSome_some, if_true, if_false, Bool.false_eq_true, reduceIte, Nat.reduceAdd, Nat.reduceSub, Bool.not_true, Bool.not_false, true_and, and_true]
            refine ⟨by decide, fun p2 hp2 => ⟨_, rfl, ?_⟩⟩
            have hne : p2 ≠ p := fun z => hp2 (by rw [z]; exact List.mem_cons_self ..)
            -- stand by stand
            refine loop_inv (fun i ρ M' => ∃ o8 o9 o10, (∀ t ∈ (grow h most wd (line.take i) ⟨kn, [], late, wt⟩).lt, In7 t) ∧ ρ = [some h.d, some (.int most), some (.str (wk wd)), some (.lst (line.map tD)), some (.obj p), some (.int (grow h most wd (line.take i) ⟨kn, [], late, wt⟩).late), some (.int (grow h most wd (line.take i) ⟨kn, [], late, wt⟩).wt), some (.obj p2), o8, o9, o10] ∧
              M' = (p2, .lst ((grow h most wd (line.take i) ⟨kn, [], late, wt⟩).lt.map tD)) :: (p, .dT (kvG tK (grow h most wd (line.take i) ⟨kn, [], late, wt⟩).kn)) :: M) _ ⟨_, _, _, fun t ht => (by cases ht), rfl, rfl⟩ ?_ ?_
            · rintro i d ρ M' N' hd ⟨o8, o9, o10, hlt, rfl, rfl⟩ hN'
              rw [List.getElem?_map] at hd
              cases e : line[i]? with
              | none => rw [e] at hd; cases hd
              | some st =>
                rw [e] at hd
                cases hd
                simp only [dVar, dC, dOp, dUn, dTst, dAnd, dOr, dNot, dAndV, dOrV, dNotV, dIfE, dNil, dCons, dTup, dLst, dNew, dCall, dB, dChain, dNext, dSeq, dDrop, dRet, dRetN, dIf, dAsg, gN, gSeq, gT, dPar2, dPar3, dAug, dRaise, dFor, dYes, dLc, dels, del, put, nth, startN, dFrz, dIx, dPart, dNoP, dSl, dApp, dPut, dM1, dFmt, dJs, dJoined, dIsi, dRg1, dRg2, dLsI, dTpI, dStI, dZip, dEnL, dLsRg1, dLsRg2, dNewK, dNewT, dOneT, dSetSort, dLsZip, dNewCan, oAdd, oSub, oMul, oDiv, oMod, oPow, oLt, oLe, oGt, oGe, oIs, oIsNot, oNeg, oIAdd, D.isN, bLen, bInt, bStr, bAbs, bBool, bList, bTuple, D.ty, D.isInt, D.isBool, D.isStr, D.isTup, D.isLst, List.map_cons, List.map_nil, List.length_cons, List.length_nil, List.replicate_succ, List.replicate_zero, List.cons_append, List.nil_append, Option.isSome_some, if_true, if_false, Bool.false_eq_true, reduceIte, Nat.reduceAdd, Nat.reduceSub, Bool.not_true, Bool.not_false, true_and, and_true]
                refine ⟨h, st, most, wd, ok, hin st (List.mem_of_getElem? e), rfl, _, rfl, ?_⟩
                generalize hs0 : grow h most wd (line.take i) ⟨kn, [], late, wt⟩ = s0 at hlt ⊢
                have hend : grow h most wd (line.take (i + 1)) ⟨kn, [], late, wt⟩ = (nexts h most wd st).foldl gone s0 := by
                  unfold grow at hs0 ⊢
                  rw [foldl_take _ e, hs0]; rfl
                have hbig : ((nexts h most wd st).foldl gone s0).kn.length ≤ 50000 := by
                  rw [← hend]
                  have := (grow_len h most wd (line.drop (i + 1)) (grow h most wd (line.take (i + 1)) ⟨kn, [], late, wt⟩)).1
                  unfold grow at this hb ⊢
                  rw [← foldl_split] at this
                  omega
                have hlt0 : s0.lt.length ≤ s0.kn.length := by
                  have := (grow_len h most wd (line.take i) ⟨kn, [], late, wt⟩).2
                  rw [hs0] at this
                  simp only [List.length_nil] at this
                  omega
                -- one after the other
                refine loop_inv (fun j ρ M' => ∃ o9 o10, (∀ t ∈ (((nexts h most wd st).take j).foldl gone s0).lt, In7 t) ∧ ρ = [some h.d, some (.int most), some (.str (wk wd)), some (.lst (line.map tD)), some (.obj p), some (.int (((nexts h most wd st).take j).foldl gone s0).late), some (.int (((nexts h most wd st).take j).foldl gone s0).wt), some (.obj p2), some (tD st), o9, o10] ∧
                  M' = (p2, .lst ((((nexts h most wd st).take j).foldl gone s0).lt.map tD)) :: (p, .dT (kvG tK (((nexts h most wd st).take j).foldl gone s0).kn)) :: M) _ ⟨_, _, hlt, rfl, rfl⟩ ?_ ?_
                · rintro j d ρ M' N2 hd ⟨o9, o10, hlt2, rfl, rfl⟩ hN2
                  rw [List.getElem?_map] at hd
                  cases e2 : (nexts h most wd st)[j]? with
                  | none => rw [e2] at hd; cases hd
                  | some x =>
                    rw [e2] at hd
                    cases hd
                    obtain ⟨⟨a, b, c⟩, mo⟩ := x
                    have hx7 := nexts_in (List.mem_of_getElem? e2)
                    have et := foldl_take gone e2 s0
                    have hk2 : (((nexts h most wd st).take j).foldl gone s0).kn.length ≤ 50000 := by
                      have := (gones_len ((nexts h most wd st).drop j) (((nexts h most wd st).take j).foldl gone s0)).1
                      rw [← foldl_split] at this
                      omega
                    have hl2 : (((nexts h most wd st).take j).foldl gone s0).lt.length ≤ 50000 := by
                      have := (gones_len ((nexts h most wd st).take j) s0).2
                      omega
                    generalize (((nexts h most wd st).take j).foldl gone s0) = s1 at hlt2 et hk2 hl2 ⊢
                    simp only [dVar, dC, dOp, dUn, dTst, dAnd, dOr, dNot, dAndV, dOrV, dNotV, dIfE, dNil, dCons, dTup, dLst, dNew, dCall, dB, dChain, dNext, dSeq, dDrop, dRet, dRetN, dIf, dAsg, gN, gSeq, gT, dPar2, dPar3, dAug, dRaise, dFor, dYes, dLc, dels, del, put, nth, startN, dFrz, dIx, dPart, dNoP, dSl, dApp, dPut, dM1, dFmt, dJs, dJoined, dIsi, dRg1, dRg2, dLsI, dTpI, dStI, dZip, dEnL, dLsRg1, dLsRg2, dNewK, dNewT, dOneT, dSetSort, dLsZip, dNewCan, oAdd, oSub, oMul, oDiv, oMod, oPow, oLt, oLe, oGt, oGe, oIs, oIsNot, oNeg, oIAdd, D.isN, bLen, bInt, bStr, bAbs, bBool, bList, bTuple, D.ty, D.isInt, D.isBool, D.isStr, D.isTup, D.isLst, List.map_cons, List.map_nil, List.length_cons, List.length_nil, List.replicate_succ, List.replicate_zero, List.cons_append, List.nil_append, Option.isSome_some, if_true, if_false, Bool.false_eq_true, reduceIte, Nat.reduceAdd, Nat.reduceSub, Bool.not_true, Bool.not_false, true_and, and_true, rD, tD, gSeq, bMax]
                    refine ⟨_, _, rfl, ix3 .., ?_⟩
                    rw [max_if]
                    dsimp only
                    rw [max_if]
                    have elk := look_kvG (fun {p q} => tK_inj) s1.kn (a, b, c)
                    refine ⟨_, .inr ⟨_, _, by rw [mget_cons_ne hne]; exact mget_self, keyT_tD (a, b, c), rfl⟩, ?_⟩
                    by_cases hmem : (a, b, c) ∈ s1.kn
                    · have e1 := elk.trans (@decide_eq_true _ (_) hmem)
                      rw [e1, xort]
                      simp only [dVar, dC, dOp, dUn, dTst, dAnd, dOr, dNot, dAndV, dOrV, dNotV, dIfE, dNil, dCons, dTup, dLst, dNew, dCall, dB, dChain, dNext, dSeq, dDrop, dRet, dRetN, dIf, dAsg, gN, gSeq, gT, dPar2, dPar3, dAug, dRaise, dFor, dYes, dLc, dels, del, put, nth, startN, dFrz, dIx, dPart, dNoP, dSl, dApp, dPut, dM1, dFmt, dJs, dJoined, dIsi, dRg1, dRg2, dLsI, dTpI, dStI, dZip, dEnL, dLsRg1, dLsRg2, dNewK, dNewT, dOneT, dSetSort, dLsZip, dNewCan, oAdd, oSub, oMul, oDiv, oMod, oPow, oLt, oLe, oGt, oGe, oIs, oIsNot, oNeg, oIAdd, D.isN, bLen, bInt, bStr, bAbs, bBool, bList, bTuple, D.ty, D.isInt, D.isBool, D.isStr, D.isTup, D.isLst, List.map_cons, List.map_nil, List.length_cons, List.length_nil, List.replicate_succ, List.replicate_zero, List.cons_append, List.nil_append, Option.isSome_some, if_true, if_false, Bool.false_eq_true, reduceIte, Nat.reduceAdd, Nat.reduceSub, Bool.not_true, Bool.not_false, true_and, and_true]
                      refine hN2 _ _ ⟨some (tD (a, b, c)), some (.int mo), ?_, ?_, ?_⟩
                      · rw [et]; exact gone_in hlt2 hx7
                      · rw [et]; unfold gone; rw [if_pos hmem]; try rfl
                      · rw [et]; unfold gone; rw [if_pos hmem]; try rfl
                    · have e1 := elk.trans (@decide_eq_false _ (_) hmem)
                      rw [e1, xort]
                      simp only [dVar, dC, dOp, dUn, dTst, dAnd, dOr, dNot, dAndV, dOrV, dNotV, dIfE, dNil, dCons, dTup, dLst, dNew, dCall, dB, dChain, dNext, dSeq, dDrop, dRet, dRetN, dIf, dAsg, gN, gSeq, gT, dPar2, dPar3, dAug, dRaise, dFor, dYes, dLc, dels, del, put, nth, startN, dFrz, dIx, dPart, dNoP, dSl, dApp, dPut, dM1, dFmt, dJs, dJoined, dIsi, dRg1, dRg2, dLsI, dTpI, dStI, dZip, dEnL, dLsRg1, dLsRg2, dNewK, dNewT, dOneT, dSetSort, dLsZip, dNewCan, oAdd, oSub, oMul, oDiv, oMod, oPow, oLt, oLe, oGt, oGe, oIs, oIsNot, oNeg, oIAdd, D.isN, bLen, bInt, bStr, bAbs, bBool, bList, bTuple, D.ty, D.isInt, D.isBool, D.isStr, D.isTup, D.isLst, List.map_cons, List.map_nil, List.length_cons, List.length_nil, List.replicate_succ, List.replicate_zero, List.cons_append, List.nil_append, Option.isSome_some, if_true, if_false, Bool.false_eq_true, reduceIte, Nat.reduceAdd, Nat.reduceSub, Bool.not_true, Bool.not_false, true_and, and_true, qPut]
                      rw [mget_cons_ne hne, mget_self]
                      refine ⟨_, keyT_tD (a, b, c), by unfold kvG; rw [List.length_map]; omega, ?_⟩
                      rw [mset_cons_ne hne, mset_cons_self, putD_kvG (fun {p q} => tK_inj)]
                      refine ⟨p2, _, rfl, mget_self, _, mget_self, by rw [List.length_map]; omega, ?_⟩
                      rw [mset_cons_self]
                      refine hN2 _ _ ⟨some (tD (a, b, c)), some (.int mo), ?_, ?_, ?_⟩
                      · rw [et]; exact gone_in hlt2 hx7
                      · rw [et]; unfold gone; rw [if_neg hmem]; try rfl
                      · rw [et]; unfold gone kputG; rw [if_neg hmem, if_neg hmem, List.map_append]; rfl
                · rintro ρ M' ⟨o9, o10, hlt2, rfl, rfl⟩
                  rw [List.length_map, List.take_length] at *
                  exact hN' _ _ ⟨_, _, _, by rw [hend]; exact hlt2, by rw [hend], by rw [hend]⟩
            · rintro ρ M' ⟨o8, o9, o10, hlt, rfl, rfl⟩
              rw [List.length_map, List.take_length] at *
              simp only [dVar, dC, dOp, dUn, dTst, dAnd, dOr, dNot, dAndV, dOrV, dNotV, dIfE, dNil, dCons, dTup, dLst, dNew, dCall, dB, dChain, dNext, dSeq, dDrop, dRet, dRetN, dIf, dAsg, gN, gSeq, gT, dPar2, dPar3, dAug, dRaise, dFor, dYes, dLc, dels, del, put, nth, startN, dFrz, dIx, dPart, dNoP, dSl, dApp, dPut, dM1, dFmt, dJs, dJoined, dIsi, dRg1, dRg2, dLsI, dTpI, dStI, dZip, dEnL, dLsRg1, dLsRg2, dNewK, dNewT, dOneT, dSetSort, dLsZip, dNewCan, oAdd, oSub, oMul, oDiv, oMod, oPow, oLt, oLe, oGt, oGe, oIs, oIsNot, oNeg, oIAdd, D.isN, bLen, bInt, bStr, bAbs, bBool, bList, bTuple, D.ty, D.isInt, D.isBool, D.isStr, D.isTup, D.isLst, List.map_cons, List.map_nil, List.length_cons, List.length_nil, List.replicate_succ, List.replicate_zero, List.cons_append, List.nil_append, Option.isSome_some, if_true, if_false, Bool.false_eq_true, reduceIte, Nat.reduceAdd, Nat.reduceSub, Bool.not_true, Bool.not_false, true_and, and_true, mget_self, mdel_cons_self]
              exact hN m _ _ (Nat.lt_succ_self m) ⟨_, _, _, _, _, _, _, _, hlt, hb, hq, rfl, rfl⟩
          · rw [if_neg hb] at hq; cases hq
theorem needK {most : Int} {wd : List Nat} (k : Kind most wd) {M : Mem} {Q : DQ} {R : Exn → Mem → Prop} (q : Q .non M) : S_need_kind [.int most, .str (wk wd)] M Q R := by
  have hw : (D.str (wk wd)).wkB = true := wkZ_wk k.aw
  have hb := inB_ok k.m0 k.m7
  exact ⟨_, _, rfl, fun _ => fine_wk (by have := k.aw.len; omega), rfl, fun _ _ => q, fun e => (by rw [hb] at e; cases e), fun _ e => (by rw [hw] at e; cases e)⟩
def gFst : Option (Int × Int) → D
  | none => .non
  | some (a, _) => .int a
def gSnd : Option (Int × Int) → D
  | none => .non
  | some (_, b) => .int b
def S_latest : DSp := fun ds M Q R => ∃ (h : Hs) (most : Int) (wd : List Nat) (n : Nat) (r : Option (Int × Int)), h.Ok ∧ Kind most wd ∧ ds = [h.d, .int most, .str (wk wd)] ∧ gbM h most wd n = some r ∧ Q (gFst r) M
def t_latest : DTS := dSeq (dDrop (dCall S_need_house (dCons (dVar 0) (dNil)))) (dSeq (dDrop (dCall S_need_kind (dCons (dVar 1) (dCons (dVar 2) (dNil))))) (dSeq (dAsg (dCall S_greatest_by (dCons (dVar 0) (dCons (dVar 1) (dCons (dVar 2) (dNil))))) (gN 3)) (dRet (dIfE (dTst (dOp oIs (dVar 3) (dC .non))) (dC .non) (dOp dIx (dVar 3) (dC (.int 0)))))))
theorem kp_latest : Keeps S_latest 4 t_latest := by
  rintro ds M Q R ⟨h, most, wd, n, r, ok, kd, rfl, hr, q⟩
  simp only [t_latest, dVar, dC, dOp, dUn, dTst, dAnd, dOr, dNot, dAndV, dOrV, dNotV, dIfE, dNil, dCons, dTup, dLst, dNew, dCall, dB, dChain, dNext, dSeq, dDrop, dRet, dRetN, dIf, dAsg, gN, gSeq, gT, dPar2, dPar3, dAug, dRaise, dFor, dYes, dLc, dels, del, put, nth, startN, dFrz, dIx, dPart, dNoP, dSl, dApp, dPut, dM1, dFmt, dJs, dJoined, dIsi, dRg1, dRg2, dLsI, dTpI, dStI, dZip, dEnL, dLsRg1, dLsRg2, dNewK, dNewT, dOneT, dSetSort, dLsZip, dNewCan, oAdd, oSub, oMul, oDiv, oMod, oPow, oLt, oLe, oGt, oGe, oIs, oIsNot, oNeg, oIAdd, D.isN, bLen, bInt, bStr, bAbs, bBool, bList, bTuple, D.ty, D.isInt, D.isBool, D.isStr, D.isTup, D.isLst, List.map_cons, List.map_nil, List.length_cons, List.length_nil, List.replicate_succ, List.replicate_zero, List.cons_append, List.nil_append, Option.isSome_some, if_true, if_false, Bool.false_eq_true, reduceIte, Nat.reduceAdd, Nat.reduceSub, Bool.not_true, Bool.not_false, true_and, and_true]
  refine needH ok (needK kd ⟨h, most, wd, n, r, ok, kd, rfl, hr, ?_⟩)
  cases r with
  | none => simp only [gD, dVar, dC, dOp, dUn, dTst, dAnd, dOr, dNot, dAndV, dOrV, dNotV, dIfE, dNil, dCons, dTup, dLst, dNew, dCall, dB, dChain, dNext, dSeq, dDrop, dRet, dRetN, dIf, dAsg, gN, gSeq, gT, dPar2, dPar3, dAug, dRaise, dFor, dYes, dLc, dels, del, put, nth, startN, dFrz, dIx, dPart, dNoP, dSl, dApp, dPut, dM1, dFmt, dJs, dJoined, dIsi, dRg1, dRg2, dLsI, dTpI, dStI, dZip, dEnL, dLsRg1, dLsRg2, dNewK, dNewT, dOneT, dSetSort, dLsZip, dNewCan, oAdd, oSub, oMul, oDiv, oMod, oPow, oLt, oLe, oGt, oGe, oIs, oIsNot, oNeg, oIAdd, D.isN, bLen, bInt, bStr, bAbs, bBool, bList, bTuple, D.ty, D.isInt, D.isBool, D.isStr, D.isTup, D.isLst, List.map_cons, List.map_nil, List.length_cons, List.length_nil, List.replicate_succ, List.replicate_zero, List.cons_append, List.nil_append, Option.isSome_some, if_true, if_false, Bool.false_eq_true, reduceIte, Nat.reduceAdd, Nat.reduceSub, Bool.not_true, Bool.not_false, true_and, and_true]; exact fg_self q
  | some ab => simp only [gD, dVar, dC, dOp, dUn, dTst, dAnd, dOr, dNot, dAndV, dOrV, dNotV, dIfE, dNil, dCons, dTup, dLst, dNew, dCall, dB, dChain, dNext, dSeq, dDrop, dRet, dRetN, dIf, dAsg, gN, gSeq, gT, dPar2, dPar3, dAug, dRaise, dFor, dYes, dLc, dels, del, put, nth, startN, dFrz, dIx, dPart, dNoP, dSl, dApp, dPut, dM1, dFmt, dJs, dJoined, dIsi, dRg1, dRg2, dLsI, dTpI, dStI, dZip, dEnL, dLsRg1, dLsRg2, dNewK, dNewT, dOneT, dSetSort, dLsZip, dNewCan, oAdd, oSub, oMul, oDiv, oMod, oPow, oLt, oLe, oGt, oGe, oIs, oIsNot, oNeg, oIAdd, D.isN, bLen, bInt, bStr, bAbs, bBool, bList, bTuple, D.ty, D.isInt, D.isBool, D.isStr, D.isTup, D.isLst, List.map_cons, List.map_nil, List.length_cons, List.length_nil, List.replicate_succ, List.replicate_zero, List.cons_append, List.nil_append, Option.isSome_some, if_true, if_false, Bool.false_eq_true, reduceIte, Nat.reduceAdd, Nat.reduceSub, Bool.not_true, Bool.not_false, true_and, and_true]; exact ⟨_, _, rfl, rfl, fg_self q⟩
def S_most_waiting : DSp := fun ds M Q R => ∃ (h : Hs) (most : Int) (wd : List Nat) (n : Nat) (r : Option (Int × Int)), h.Ok ∧ Kind most wd ∧ ds = [h.d, .int most, .str (wk wd)] ∧ gbM h most wd n = some r ∧ Q (gSnd r) M
def t_most_waiting : DTS := dSeq (dDrop (dCall S_need_house (dCons (dVar 0) (dNil)))) (dSeq (dDrop (dCall S_need_kind (dCons (dVar 1) (dCons (dVar 2) (dNil))))) (dSeq (dAsg (dCall S_greatest_by (dCons (dVar 0) (dCons (dVar 1) (dCons (dVar 2) (dNil))))) (gN 3)) (dRet (dIfE (dTst (dOp oIs (dVar 3) (dC .non))) (dC .non) (dOp dIx (dVar 3) (dC (.int 1)))))))
theorem kp_most_waiting : Keeps S_most_waiting 4 t_most_waiting := by
  rintro ds M Q R ⟨h, most, wd, n, r, ok, kd, rfl, hr, q⟩
  simp only [t_most_waiting, dVar, dC, dOp, dUn, dTst, dAnd, dOr, dNot, dAndV, dOrV, dNotV, dIfE, dNil, dCons, dTup, dLst, dNew, dCall, dB, dChain, dNext, dSeq, dDrop, dRet, dRetN, dIf, dAsg, gN, gSeq, gT, dPar2, dPar3, dAug, dRaise, dFor, dYes, dLc, dels, del, put, nth, startN, dFrz, dIx, dPart, dNoP, dSl, dApp, dPut, dM1, dFmt, dJs, dJoined, dIsi, dRg1, dRg2, dLsI, dTpI, dStI, dZip, dEnL, dLsRg1, dLsRg2, dNewK, dNewT, dOneT, dSetSort, dLsZip, dNewCan, oAdd, oSub, oMul, oDiv, oMod, oPow, oLt, oLe, oGt, oGe, oIs, oIsNot, oNeg, oIAdd, D.isN, bLen, bInt, bStr, bAbs, bBool, bList, bTuple, D.ty, D.isInt, D.isBool, D.isStr, D.isTup, D.isLst, List.map_cons, List.map_nil, List.length_cons, List.length_nil, List.replicate_succ, List.replicate_zero, List.cons_append, List.nil_append, Option.isSome_some, if_true, if_false, Bool.false_eq_true, reduceIte, Nat.reduceAdd, Nat.reduceSub, Bool.not_true, Bool.not_false, true_and, and_true]
  refine needH ok (needK kd ⟨h, most, wd, n, r, ok, kd, rfl, hr, ?_⟩)
  cases r with
  | none => simp only [gD, dVar, dC, dOp, dUn, dTst, dAnd, dOr, dNot, dAndV, dOrV, dNotV, dIfE, dNil, dCons, dTup, dLst, dNew, dCall, dB, dChain, dNext, dSeq, dDrop, dRet, dRetN, dIf, dAsg, gN, gSeq, gT, dPar2, dPar3, dAug, dRaise, dFor, dYes, dLc, dels, del, put, nth, startN, dFrz, dIx, dPart, dNoP, dSl, dApp, dPut, dM1, dFmt, dJs, dJoined, dIsi, dRg1, dRg2, dLsI, dTpI, dStI, dZip, dEnL, dLsRg1, dLsRg2, dNewK, dNewT, dOneT, dSetSort, dLsZip, dNewCan, oAdd, oSub, oMul, oDiv, oMod, oPow, oLt, oLe, oGt, oGe, oIs, oIsNot, oNeg, oIAdd, D.isN, bLen, bInt, bStr, bAbs, bBool, bList, bTuple, D.ty, D.isInt, D.isBool, D.isStr, D.isTup, D.isLst, List.map_cons, List.map_nil, List.length_cons, List.length_nil, List.replicate_succ, List.replicate_zero, List.cons_append, List.nil_append, Option.isSome_some, if_true, if_false, Bool.false_eq_true, reduceIte, Nat.reduceAdd, Nat.reduceSub, Bool.not_true, Bool.not_false, true_and, and_true]; exact fg_self q
  | some ab => simp only [gD, dVar, dC, dOp, dUn, dTst, dAnd, dOr, dNot, dAndV, dOrV, dNotV, dIfE, dNil, dCons, dTup, dLst, dNew, dCall, dB, dChain, dNext, dSeq, dDrop, dRet, dRetN, dIf, dAsg, gN, gSeq, gT, dPar2, dPar3, dAug, dRaise, dFor, dYes, dLc, dels, del, put, nth, startN, dFrz, dIx, dPart, dNoP, dSl, dApp, dPut, dM1, dFmt, dJs, dJoined, dIsi, dRg1, dRg2, dLsI, dTpI, dStI, dZip, dEnL, dLsRg1, dLsRg2, dNewK, dNewT, dOneT, dSetSort, dLsZip, dNewCan, oAdd, oSub, oMul, oDiv, oMod, oPow, oLt, oLe, oGt, oGe, oIs, oIsNot, oNeg, oIAdd, D.isN, bLen, bInt, bStr, bAbs, bBool, bList, bTuple, D.ty, D.isInt, D.isBool, D.isStr, D.isTup, D.isLst, List.map_cons, List.map_nil, List.length_cons, List.length_nil, List.replicate_succ, List.replicate_zero, List.cons_append, List.nil_append, Option.isSome_some, if_true, if_false, Bool.false_eq_true, reduceIte, Nat.reduceAdd, Nat.reduceSub, Bool.not_true, Bool.not_false, true_and, and_true]; exact ⟨_, _, rfl, rfl, fg_self q⟩
end Dl
namespace Dl
open PySem
/-! # telling -/
def signs : List Nat := ("0123." : Str).cps.toList
def seenZ (z : Str) : Bool := z.cps.toList.all fun c => decide (c ∈ signs)
def D.seenB : D → Bool
  | .str z => decide (1 ≤ z.length) && (decide (z.length ≤ 40) && seenZ z)
  | _ => false
def S_is_seen : DSp := fun ds M Q R => ∃ x : D, x.fine ∧ ds = [x] ∧ Q (.bl x.seenB) M
def t_is_seen : DTS := dSeq (dIf (dOr (dNot (dTst (dIsi D.isStr (dVar 0)))) (dNot (dTst (dChain oLe oLe (dC (.int 1)) (dB bLen (dCons (dVar 0) (dNil))) (dC (.int 40)))))) (dRet (dC (.bl false))) (dNext)) (dRet (dB bAll (dCons (dLc [1] (dStI (dVar 0)) (gN 1) (dYes) (dOp (qIn false) (dVar 1) (dC (.str ("0123." : Str))))) (dNil))))
theorem kp_is_seen : Keeps S_is_seen 2 t_is_seen := by
  rintro ds M Q R ⟨x, ⟨ht, hl⟩, rfl, q⟩
  cases x with
  | str z =>
    have hz := hl z rfl
    have hlen : (chD z).length ≤ 100000 := by simpa [chD, Str.length] using hz
    simp only [D.seenB] at q
    simp only [t_is_seen, dVar, dC, dOp, dUn, dTst, dAnd, dOr, dNot, dAndV, dOrV, dNotV, dIfE, dNil, dCons, dTup, dLst, dNew, dCall, dB, dChain, dNext, dSeq, dDrop, dRet, dRetN, dIf, dAsg, gN, gSeq, gT, dPar2, dPar3, dAug, dRaise, dFor, dYes, dLc, dels, del, put, nth, startN, dFrz, dIx, dPart, dNoP, dSl, dApp, dPut, dM1, dFmt, dJs, dJoined, dIsi, dRg1, dRg2, dLsI, dTpI, dStI, dZip, dEnL, dLsRg1, dLsRg2, dNewK, dNewT, dOneT, dSetSort, dLsZip, dNewCan, oAdd, oSub, oMul, oDiv, oMod, oPow, oLt, oLe, oGt, oGe, oIs, oIsNot, oNeg, oIAdd, D.isN, bLen, bInt, bStr, bAbs, bBool, bList, bTuple, D.ty, D.isInt, D.isBool, D.isStr, D.isTup, D.isLst, List.map_cons, List.map_nil, List.length_cons, List.length_nil, List.replicate_succ, List.replicate_zero, List.cons_append, List.nil_append, Option.isSome_some, if_true, if_false, Bool.false_eq_true, reduceIte, Nat.reduceAdd, Nat.reduceSub, Bool.not_true, Bool.not_false, true_and, and_true]
    refine ⟨hz, ?_⟩
    by_cases h1 : 1 ≤ z.length
    · rw [decide_eq_true h1] at q
      rw [decide_eq_true (show (1 : Int) ≤ (z.length : Int) by omega)]
      simp only [dVar, dC, dOp, dUn, dTst, dAnd, dOr, dNot, dAndV, dOrV, dNotV, dIfE, dNil, dCons, dTup, dLst, dNew, dCall, dB, dChain, dNext, dSeq, dDrop, dRet, dRetN, dIf, dAsg, gN, gSeq, gT, dPar2, dPar3, dAug, dRaise, dFor, dYes, dLc, dels, del, put, nth, startN, dFrz, dIx, dPart, dNoP, dSl, dApp, dPut, dM1, dFmt, dJs, dJoined, dIsi, dRg1, dRg2, dLsI, dTpI, dStI, dZip, dEnL, dLsRg1, dLsRg2, dNewK, dNewT, dOneT, dSetSort, dLsZip, dNewCan, oAdd, oSub, oMul, oDiv, oMod, oPow, oLt, oLe, oGt, oGe, oIs, oIsNot, oNeg, oIAdd, D.isN, bLen, bInt, bStr, bAbs, bBool, bList, bTuple, D.ty, D.isInt, D.isBool, D.isStr, D.isTup, D.isLst, List.map_cons, List.map_nil, List.length_cons, List.length_nil, List.replicate_succ, List.replicate_zero, List.cons_append, List.nil_append, Option.isSome_some, if_true, if_false, Bool.false_eq_true, reduceIte, Nat.reduceAdd, Nat.reduceSub, Bool.not_true, Bool.not_false, true_and, and_true]
      by_cases h40 : z.length ≤ 40
      · rw [decide_eq_true h40] at q
        rw [decide_eq_true (show (z.length : Int) ≤ 40 by omega)]
        simp only [dVar, dC, dOp, dUn, dTst, dAnd, dOr, dNot, dAndV, dOrV, dNotV, dIfE, dNil, dCons, dTup, dLst, dNew, dCall, dB, dChain, dNext, dSeq, dDrop, dRet, dRetN, dIf, dAsg, gN, gSeq, gT, dPar2, dPar3, dAug, dRaise, dFor, dYes, dLc, dels, del, put, nth, startN, dFrz, dIx, dPart, dNoP, dSl, dApp, dPut, dM1, dFmt, dJs, dJoined, dIsi, dRg1, dRg2, dLsI, dTpI, dStI, dZip, dEnL, dLsRg1, dLsRg2, dNewK, dNewT, dOneT, dSetSort, dLsZip, dNewCan, oAdd, oSub, oMul, oDiv, oMod, oPow, oLt, oLe, oGt, oGe, oIs, oIsNot, oNeg, oIAdd, D.isN, bLen, bInt, bStr, bAbs, bBool, bList, bTuple, D.ty, D.isInt, D.isBool, D.isStr, D.isTup, D.isLst, List.map_cons, List.map_nil, List.length_cons, List.length_nil, List.replicate_succ, List.replicate_zero, List.cons_append, List.nil_append, Option.isSome_some, if_true, if_false, Bool.false_eq_true, reduceIte, Nat.reduceAdd, Nat.reduceSub, Bool.not_true, Bool.not_false, true_and, and_true]
        simp only [Bool.true_and] at q
        refine ⟨z, rfl, hlen, lc_map (fun d => .bl (decide (d.sg ∈ signs))) _ (fun d hd k hk => ?_) ?_⟩
        · obtain ⟨c, hc, rfl⟩ := List.mem_map.mp hd
          simp only [dVar, dC, dOp, dUn, dTst, dAnd, dOr, dNot, dAndV, dOrV, dNotV, dIfE, dNil, dCons, dTup, dLst, dNew, dCall, dB, dChain, dNext, dSeq, dDrop, dRet, dRetN, dIf, dAsg, gN, gSeq, gT, dPar2, dPar3, dAug, dRaise, dFor, dYes, dLc, dels, del, put, nth, startN, dFrz, dIx, dPart, dNoP, dSl, dApp, dPut, dM1, dFmt, dJs, dJoined, dIsi, dRg1, dRg2, dLsI, dTpI, dStI, dZip, dEnL, dLsRg1, dLsRg2, dNewK, dNewT, dOneT, dSetSort, dLsZip, dNewCan, oAdd, oSub, oMul, oDiv, oMod, oPow, oLt, oLe, oGt, oGe, oIs, oIsNot, oNeg, oIAdd, D.isN, bLen, bInt, bStr, bAbs, bBool, bList, bTuple, D.ty, D.isInt, D.isBool, D.isStr, D.isTup, D.isLst, List.map_cons, List.map_nil, List.length_cons, List.length_nil, List.replicate_succ, List.replicate_zero, List.cons_append, List.nil_append, Option.isSome_some, if_true, if_false, Bool.false_eq_true, reduceIte, Nat.reduceAdd, Nat.reduceSub, Bool.not_true, Bool.not_false, true_and, and_true]
          refine str_in c _ _ _ _ ?_
          rw [xorf]; rw [sg_one] at hk; exact hk
        · simp only [bAll]
          refine ⟨(chD z).map fun d => decide (d.sg ∈ signs), by rw [List.map_map]; rfl, ?_⟩
          have e : ((chD z).map fun d => decide (d.sg ∈ signs)).all id = seenZ z := by
            unfold chD seenZ; rw [List.map_map, List.all_map]; simp only [Function.comp_def, sg_one, id]
          rw [e]
          exact fg_self q
      · rw [decide_eq_false h40] at q
        rw [decide_eq_false (show ¬ (z.length : Int) ≤ 40 by omega)]
        simp only [dVar, dC, dOp, dUn, dTst, dAnd, dOr, dNot, dAndV, dOrV, dNotV, dIfE, dNil, dCons, dTup, dLst, dNew, dCall, dB, dChain, dNext, dSeq, dDrop, dRet, dRetN, dIf, dAsg, gN, gSeq, gT, dPar2, dPar3, dAug, dRaise, dFor, dYes, dLc, dels, del, put, nth, startN, dFrz, dIx, dPart, dNoP, dSl, dApp, dPut, dM1, dFmt, dJs, dJoined, dIsi, dRg1, dRg2, dLsI, dTpI, dStI, dZip, dEnL, dLsRg1, dLsRg2, dNewK, dNewT, dOneT, dSetSort, dLsZip, dNewCan, oAdd, oSub, oMul, oDiv, oMod, oPow, oLt, oLe, oGt, oGe, oIs, oIsNot, oNeg, oIAdd, D.isN, bLen, bInt, bStr, bAbs, bBool, bList, bTuple, D.ty, D.isInt, D.isBool, D.isStr, D.isTup, D.isLst, List.map_cons, List.map_nil, List.length_cons, List.length_nil, List.replicate_succ, List.replicate_zero, List.cons_append, List.nil_append, Option.isSome_some, if_true, if_false, Bool.false_eq_true, reduceIte, Nat.reduceAdd, Nat.reduceSub, Bool.not_true, Bool.not_false, true_and, and_true]
        exact fg_self q
    · rw [decide_eq_false h1] at q
      rw [decide_eq_false (show ¬ (1 : Int) ≤ (z.length : Int) by omega)]
      simp only [dVar, dC, dOp, dUn, dTst, dAnd, dOr, dNot, dAndV, dOrV, dNotV, dIfE, dNil, dCons, dTup, dLst, dNew, dCall, dB, dChain, dNext, dSeq, dDrop, dRet, dRetN, dIf, dAsg, gN, gSeq, gT, dPar2, dPar3, dAug, dRaise, dFor, dYes, dLc, dels, del, put, nth, startN, dFrz, dIx, dPart, dNoP, dSl, dApp, dPut, dM1, dFmt, dJs, dJoined, dIsi, dRg1, dRg2, dLsI, dTpI, dStI, dZip, dEnL, dLsRg1, dLsRg2, dNewK, dNewT, dOneT, dSetSort, dLsZip, dNewCan, oAdd, oSub, oMul, oDiv, oMod, oPow, oLt, oLe, oGt, oGe, oIs, oIsNot, oNeg, oIAdd, D.isN, bLen, bInt, bStr, bAbs, bBool, bList, bTuple, D.ty, D.isInt, D.isBool, D.isStr, D.isTup, D.isLst, List.map_cons, List.map_nil, List.length_cons, List.length_nil, List.replicate_succ, List.replicate_zero, List.cons_append, List.nil_append, Option.isSome_some, if_true, if_false, Bool.false_eq_true, reduceIte, Nat.reduceAdd, Nat.reduceSub, Bool.not_true, Bool.not_false, true_and, and_true]
      exact fg_self q
  | scr _ => cases ht
  | fn _ => cases ht
  | obj _ => cases ht
  | _ => simp only [t_is_seen, dVar, dC, dOp, dUn, dTst, dAnd, dOr, dNot, dAndV, dOrV, dNotV, dIfE, dNil, dCons, dTup, dLst, dNew, dCall, dB, dChain, dNext, dSeq, dDrop, dRet, dRetN, dIf, dAsg, gN, gSeq, gT, dPar2, dPar3, dAug, dRaise, dFor, dYes, dLc, dels, del, put, nth, startN, dFrz, dIx, dPart, dNoP, dSl, dApp, dPut, dM1, dFmt, dJs, dJoined, dIsi, dRg1, dRg2, dLsI, dTpI, dStI, dZip, dEnL, dLsRg1, dLsRg2, dNewK, dNewT, dOneT, dSetSort, dLsZip, dNewCan, oAdd, oSub, oMul, oDiv, oMod, oPow, oLt, oLe, oGt, oGe, oIs, oIsNot, oNeg, oIAdd, D.isN, bLen, bInt, bStr, bAbs, bBool, bList, bTuple, D.ty, D.isInt, D.isBool, D.isStr, D.isTup, D.isLst, List.map_cons, List.map_nil, List.length_cons, List.length_nil, List.replicate_succ, List.replicate_zero, List.cons_append, List.nil_append, Option.isSome_some, if_true, if_false, Bool.false_eq_true, reduceIte, Nat.reduceAdd, Nat.reduceSub, Bool.not_true, Bool.not_false, true_and, and_true]; exact fg_self q
/-- how many are done, day by day -/
def cnts (h : Hs) (ns : List Int) : Nat → Nat → Int → List Int
  | 0, _, _ => []
  | k + 1, d, w => min (w + bo h d) (mdn h d (decide ((d : Int) ∈ ns))) :: cnts h ns k (d + 1) (wb h d w (decide ((d : Int) ∈ ns)))
theorem cnts_len (h : Hs) (ns : List Int) : ∀ k d w, (cnts h ns k d w).length = k
  | 0, _, _ => rfl
  | k + 1, d, w => congrArg Nat.succ (cnts_len h ns k _ _)
def S_counts_of : DSp := fun ds M Q R => ∃ (h : Hs) (ns : List Int) (n : Nat), h.Ok ∧ n ≤ 100000 ∧ ds = [h.d, cal ns, .int (n : Int)] ∧ Q (.lst ((cnts h ns n 0 0).map D.int)) M
def t_counts_of : DTS := dSeq (dPar2 3 4 (dCons (dC (.int 0)) (dCons (dNew (dNil)) (dNil)))) (dSeq (dFor (dRg1 (dVar 2)) (gN 5) (dSeq (dAug 3 oIAdd (dCall S_begins_on (dCons (dVar 0) (dCons (dVar 5) (dNil))))) (dSeq (dAsg (dB bMin (dCons (dVar 3) (dCons (dCall S_most_done (dCons (dVar 0) (dCons (dVar 5) (dCons (dOp (qIn false) (dVar 5) (dVar 1)) (dNil))))) (dNil)))) (gN 6)) (dSeq (dAug 3 oSub (dVar 6)) (dDrop (dApp (dVar 4) (dVar 6))))))) (dRet (dFrz (dVar 4))))
theorem kp_counts_of : Keeps S_counts_of 7 t_counts_of := by
  rintro ds M Q R ⟨h, ns, n, ok, hn, rfl, q⟩
  simp only [t_counts_of, dVar, dC, dOp, dUn, dTst, dAnd, dOr, dNot, dAndV, dOrV, dNotV, dIfE, dNil, dCons, dTup, dLst, dNew, dCall, dB, dChain, dNext, dSeq, dDrop, dRet, dRetN, dIf, dAsg, gN, gSeq, gT, dPar2, dPar3, dAug, dRaise, dFor, dYes, dLc, dels, del, put, nth, startN, dFrz, dIx, dPart, dNoP, dSl, dApp, dPut, dM1, dFmt, dJs, dJoined, dIsi, dRg1, dRg2, dLsI, dTpI, dStI, dZip, dEnL, dLsRg1, dLsRg2, dNewK, dNewT, dOneT, dSetSort, dLsZip, dNewCan, oAdd, oSub, oMul, oDiv, oMod, oPow, oLt, oLe, oGt, oGe, oIs, oIsNot, oNeg, oIAdd, D.isN, bLen, bInt, bStr, bAbs, bBool, bList, bTuple, D.ty, D.isInt, D.isBool, D.isStr, D.isTup, D.isLst, List.map_cons, List.map_nil, List.length_cons, List.length_nil, List.replicate_succ, List.replicate_zero, List.cons_append, List.nil_append, Option.isSome_some, if_true, if_false, Bool.false_eq_true, reduceIte, Nat.reduceAdd, Nat.reduceSub, Bool.not_true, Bool.not_false, true_and, and_true]
  refine ⟨by decide, fun p hp => ⟨_, rfl, ?_⟩⟩
  have e : ((n : Int)).toNat = n := by omega
  rw [e]
  refine loop_inv (fun i ρ M' => ∃ (w : Int) (acc : List Int) (o5 o6 : Option D), acc ++ cnts h ns (n - i) i w = cnts h ns n 0 0 ∧ acc.length = i ∧ ρ = [some h.d, some (cal ns), some (.int (n : Int)), some (.int w), some (.obj p), o5, o6] ∧ M' = (p, .lst (acc.map D.int)) :: M) _ ⟨0, [], none, none, rfl, rfl, rfl, rfl⟩ ?_ ?_
  · rintro i d ρ M' N hd ⟨w, acc, o5, o6, ha, hl, rfl, rfl⟩ hN
    have hi : i < n := by
      have := (List.getElem?_eq_some_iff.mp hd).1
      rwa [rgD_length] at this
    rw [rgD_get hi] at hd
    cases hd
    simp only [dVar, dC, dOp, dUn, dTst, dAnd, dOr, dNot, dAndV, dOrV, dNotV, dIfE, dNil, dCons, dTup, dLst, dNew, dCall, dB, dChain, dNext, dSeq, dDrop, dRet, dRetN, dIf, dAsg, gN, gSeq, gT, dPar2, dPar3, dAug, dRaise, dFor, dYes, dLc, dels, del, put, nth, startN, dFrz, dIx, dPart, dNoP, dSl, dApp, dPut, dM1, dFmt, dJs, dJoined, dIsi, dRg1, dRg2, dLsI, dTpI, dStI, dZip, dEnL, dLsRg1, dLsRg2, dNewK, dNewT, dOneT, dSetSort, dLsZip, dNewCan, oAdd, oSub, oMul, oDiv, oMod, oPow, oLt, oLe, oGt, oGe, oIs, oIsNot, oNeg, oIAdd, D.isN, bLen, bInt, bStr, bAbs, bBool, bList, bTuple, D.ty, D.isInt, D.isBool, D.isStr, D.isTup, D.isLst, List.map_cons, List.map_nil, List.length_cons, List.length_nil, List.replicate_succ, List.replicate_zero, List.cons_append, List.nil_append, Option.isSome_some, if_true, if_false, Bool.false_eq_true, reduceIte, Nat.reduceAdd, Nat.reduceSub, Bool.not_true, Bool.not_false, true_and, and_true]
    rw [show (0 : Int) + (i : Nat) = (i : Int) by omega]
    refine ⟨h, _, ok, rfl, in_cal _ _ _ _ ⟨h, _, _, ok, rfl, ?_⟩⟩
    simp only [bMin]
    rw [min_if]
    refine ⟨p, _, rfl, mget_self, _, mget_self, by rw [List.length_map]; omega, ?_⟩
    rw [mset_cons_self]
    refine hN _ _ ⟨_, acc ++ [min (w + bo h i) (mdn h i (decide ((i : Int) ∈ ns)))], _, _, ?_, by rw [List.length_append, hl]; rfl, rfl, by rw [List.map_append]; rfl⟩
    rw [← ha, show n - i = (n - (i + 1)) + 1 by omega, List.append_assoc]
    rfl
  · rintro ρ M' ⟨w, acc, o5, o6, ha, hl, rfl, rfl⟩
    rw [rgD_length] at ha hl
    simp only [dVar, dC, dOp, dUn, dTst, dAnd, dOr, dNot, dAndV, dOrV, dNotV, dIfE, dNil, dCons, dTup, dLst, dNew, dCall, dB, dChain, dNext, dSeq, dDrop, dRet, dRetN, dIf, dAsg, gN, gSeq, gT, dPar2, dPar3, dAug, dRaise, dFor, dYes, dLc, dels, del, put, nth, startN, dFrz, dIx, dPart, dNoP, dSl, dApp, dPut, dM1, dFmt, dJs, dJoined, dIsi, dRg1, dRg2, dLsI, dTpI, dStI, dZip, dEnL, dLsRg1, dLsRg2, dNewK, dNewT, dOneT, dSetSort, dLsZip, dNewCan, oAdd, oSub, oMul, oDiv, oMod, oPow, oLt, oLe, oGt, oGe, oIs, oIsNot, oNeg, oIAdd, D.isN, bLen, bInt, bStr, bAbs, bBool, bList, bTuple, D.ty, D.isInt, D.isBool, D.isStr, D.isTup, D.isLst, List.map_cons, List.map_nil, List.length_cons, List.length_nil, List.replicate_succ, List.replicate_zero, List.cons_append, List.nil_append, Option.isSome_some, if_true, if_false, Bool.false_eq_true, reduceIte, Nat.reduceAdd, Nat.reduceSub, Bool.not_true, Bool.not_false, true_and, and_true, mget_self, mdel_cons_self]
    rw [Nat.sub_self] at ha
    rw [← ha] at q
    rw [show cnts h ns 0 n w = [] from rfl, List.append_nil] at q
    exact fg_self q
/-! ### goes_with -/
def goesB : List Nat → List Int → Bool
  | c :: cs, n :: ns => (decide (c = 46) || decide ((c : Int) - 48 = n)) && goesB cs ns
  | _, _ => true
def S_goes_with : DSp := fun ds M Q R => ∃ (h : Hs) (ns : List Int) (z : Str), h.Ok ∧ z.length ≤ 1000 ∧ seenZ z = true ∧ ds = [h.d, cal ns, .str z] ∧ Q (.bl (goesB z.cps.toList (cnts h ns z.length 0 0))) M
def t_goes_with : DTS := dSeq (dFor (dZip (dVar 2) (dCall S_counts_of (dCons (dVar 0) (dCons (dVar 1) (dCons (dB bLen (dCons (dVar 2) (dNil))) (dNil)))))) (gT [gN 3, gN 4]) (dIf (dAnd (dTst (dOp oNe (dVar 3) (dC (.str ("." : Str))))) (dTst (dOp oNe (dB bInt (dCons (dVar 3) (dNil))) (dVar 4)))) (dRet (dC (.bl false))) (dNext))) (dRet (dC (.bl true)))
theorem ok_sg {c : Nat} (h : c ∈ signs) : (D.str ⟨#[c]⟩).ok := by
  have e : signs = [48, 49, 50, 51, 46] := by decide
  rw [e] at h
  simp only [List.mem_cons, List.not_mem_nil, or_false] at h
  rcases h with z | z | z | z | z <;> (subst z; unfold D.ok; simp only [D.py]; decide +kernel)
theorem ok_dot : (D.str ("." : Str)).ok := by unfold D.ok; simp only [D.py]; decide +kernel
theorem eqv_dot (c : Nat) : (D.str ⟨#[c]⟩).eqv (.str ("." : Str)) = decide (c = 46) := by
  simp only [D.eqv, D.py, PyData.eqv]
  by_cases h : c = 46
  · subst h; decide +kernel
  · rw [decide_eq_false h]
    apply beq_eq_false_iff_ne.mpr
    intro e
    apply h
    have : (⟨#[c]⟩ : Str).cps = ("." : Str).cps := congrArg Str.cps e
    have e2 : ("." : Str).cps = #[46] := by decide +kernel
    rw [e2] at this
    simpa using this
theorem int_sg {c : Nat} (h : c ∈ signs) (h0 : ¬ c = 46) : PySem.intText? ⟨#[c]⟩ = some ((c : Int) - 48) := by
  have e : signs = [48, 49, 50, 51, 46] := by decide
  rw [e] at h
  simp only [List.mem_cons, List.not_mem_nil, or_false] at h
  rcases h with z | z | z | z | z <;> first | exact absurd z h0 | (subst z; decide +kernel)
theorem kp_goes_with : Keeps S_goes_with 5 t_goes_with := by
  rintro ds M Q R ⟨h, ns, z, ok, hz, hs, rfl, q⟩
  simp only [t_goes_with, dVar, dC, dOp, dUn, dTst, dAnd, dOr, dNot, dAndV, dOrV, dNotV, dIfE, dNil, dCons, dTup, dLst, dNew, dCall, dB, dChain, dNext, dSeq, dDrop, dRet, dRetN, dIf, dAsg, gN, gSeq, gT, dPar2, dPar3, dAug, dRaise, dFor, dYes, dLc, dels, del, put, nth, startN, dFrz, dIx, dPart, dNoP, dSl, dApp, dPut, dM1, dFmt, dJs, dJoined, dIsi, dRg1, dRg2, dLsI, dTpI, dStI, dZip, dEnL, dLsRg1, dLsRg2, dNewK, dNewT, dOneT, dSetSort, dLsZip, dNewCan, oAdd, oSub, oMul, oDiv, oMod, oPow, oLt, oLe, oGt, oGe, oIs, oIsNot, oNeg, oIAdd, D.isN, bLen, bInt, bStr, bAbs, bBool, bList, bTuple, D.ty, D.isInt, D.isBool, D.isStr, D.isTup, D.isLst, List.map_cons, List.map_nil, List.length_cons, List.length_nil, List.replicate_succ, List.replicate_zero, List.cons_append, List.nil_append, Option.isSome_some, if_true, if_false, Bool.false_eq_true, reduceIte, Nat.reduceAdd, Nat.reduceSub, Bool.not_true, Bool.not_false, true_and, and_true]
  refine ⟨by omega, h, ns, z.length, ok, by omega, rfl, _, _, rfl, rfl, ?_⟩
  have hs' : ∀ c ∈ z.cps.toList, c ∈ signs := fun c hc => of_decide_eq_true (List.all_eq_true.mp hs c hc)
  unfold chD
  generalize z.cps.toList = cs at hs' q ⊢
  generalize cnts h ns z.length 0 0 = ks at q ⊢
  refine loop_inv (fun i ρ M' => (∃ o3 o4, ρ = [some h.d, some (cal ns), some (.str z), o3, o4]) ∧ M' = M ∧ goesB (cs.drop i) (ks.drop i) = goesB cs ks) _ ⟨⟨_, _, rfl⟩, rfl, rfl⟩ ?_ ?_
  · rintro i d ρ M' N hd ⟨⟨o3, o4, rfl⟩, rfl, hg⟩ hN
    obtain ⟨x, y, h1, h2, rfl⟩ := zipD_get hd
    rw [List.getElem?_map] at h1 h2
    cases e1 : cs[i]? with
    | none => rw [e1] at h1; cases h1
    | some c =>
      cases e2 : ks[i]? with
      | none => rw [e2] at h2; cases h2
      | some k =>
        rw [e1] at h1; rw [e2] at h2
        cases h1; cases h2
        have hc := hs' c (List.mem_of_getElem? e1)
        obtain ⟨l1, g1⟩ := List.getElem?_eq_some_iff.mp e1
        obtain ⟨l2, g2⟩ := List.getElem?_eq_some_iff.mp e2
        rw [List.drop_eq_getElem_cons l1, List.drop_eq_getElem_cons l2, g1, g2] at hg
        simp only [dVar, dC, dOp, dUn, dTst, dAnd, dOr, dNot, dAndV, dOrV, dNotV, dIfE, dNil, dCons, dTup, dLst, dNew, dCall, dB, dChain, dNext, dSeq, dDrop, dRet, dRetN, dIf, dAsg, gN, gSeq, gT, dPar2, dPar3, dAug, dRaise, dFor, dYes, dLc, dels, del, put, nth, startN, dFrz, dIx, dPart, dNoP, dSl, dApp, dPut, dM1, dFmt, dJs, dJoined, dIsi, dRg1, dRg2, dLsI, dTpI, dStI, dZip, dEnL, dLsRg1, dLsRg2, dNewK, dNewT, dOneT, dSetSort, dLsZip, dNewCan, oAdd, oSub, oMul, oDiv, oMod, oPow, oLt, oLe, oGt, oGe, oIs, oIsNot, oNeg, oIAdd, D.isN, bLen, bInt, bStr, bAbs, bBool, bList, bTuple, D.ty, D.isInt, D.isBool, D.isStr, D.isTup, D.isLst, List.map_cons, List.map_nil, List.length_cons, List.length_nil, List.replicate_succ, List.replicate_zero, List.cons_append, List.nil_append, Option.isSome_some, if_true, if_false, Bool.false_eq_true, reduceIte, Nat.reduceAdd, Nat.reduceSub, Bool.not_true, Bool.not_false, true_and, and_true]
        refine ⟨ok_sg hc, ok_dot, ?_⟩
        rw [eqv_dot]
        by_cases h46 : c = 46
        · rw [decide_eq_true h46]
          simp only [dVar, dC, dOp, dUn, dTst, dAnd, dOr, dNot, dAndV, dOrV, dNotV, dIfE, dNil, dCons, dTup, dLst, dNew, dCall, dB, dChain, dNext, dSeq, dDrop, dRet, dRetN, dIf, dAsg, gN, gSeq, gT, dPar2, dPar3, dAug, dRaise, dFor, dYes, dLc, dels, del, put, nth, startN, dFrz, dIx, dPart, dNoP, dSl, dApp, dPut, dM1, dFmt, dJs, dJoined, dIsi, dRg1, dRg2, dLsI, dTpI, dStI, dZip, dEnL, dLsRg1, dLsRg2, dNewK, dNewT, dOneT, dSetSort, dLsZip, dNewCan, oAdd, oSub, oMul, oDiv, oMod, oPow, oLt, oLe, oGt, oGe, oIs, oIsNot, oNeg, oIAdd, D.isN, bLen, bInt, bStr, bAbs, bBool, bList, bTuple, D.ty, D.isInt, D.isBool, D.isStr, D.isTup, D.isLst, List.map_cons, List.map_nil, List.length_cons, List.length_nil, List.replicate_succ, List.replicate_zero, List.cons_append, List.nil_append, Option.isSome_some, if_true, if_false, Bool.false_eq_true, reduceIte, Nat.reduceAdd, Nat.reduceSub, Bool.not_true, Bool.not_false, true_and, and_true]
          refine hN _ _ ⟨⟨_, _, rfl⟩, rfl, ?_⟩
          rw [← hg]
          simp only [goesB, decide_eq_true h46, Bool.true_or, Bool.true_and]
        · rw [decide_eq_false h46]
          simp only [dVar, dC, dOp, dUn, dTst, dAnd, dOr, dNot, dAndV, dOrV, dNotV, dIfE, dNil, dCons, dTup, dLst, dNew, dCall, dB, dChain, dNext, dSeq, dDrop, dRet, dRetN, dIf, dAsg, gN, gSeq, gT, dPar2, dPar3, dAug, dRaise, dFor, dYes, dLc, dels, del, put, nth, startN, dFrz, dIx, dPart, dNoP, dSl, dApp, dPut, dM1, dFmt, dJs, dJoined, dIsi, dRg1, dRg2, dLsI, dTpI, dStI, dZip, dEnL, dLsRg1, dLsRg2, dNewK, dNewT, dOneT, dSetSort, dLsZip, dNewCan, oAdd, oSub, oMul, oDiv, oMod, oPow, oLt, oLe, oGt, oGe, oIs, oIsNot, oNeg, oIAdd, D.isN, bLen, bInt, bStr, bAbs, bBool, bList, bTuple, D.ty, D.isInt, D.isBool, D.isStr, D.isTup, D.isLst, List.map_cons, List.map_nil, List.length_cons, List.length_nil, List.replicate_succ, List.replicate_zero, List.cons_append, List.nil_append, Option.isSome_some, if_true, if_false, Bool.false_eq_true, reduceIte, Nat.reduceAdd, Nat.reduceSub, Bool.not_true, Bool.not_false, true_and, and_true]
          refine ⟨_, int_sg hc h46, by show 1 ≤ 640; decide, ok_int _, ok_int _, ?_⟩
          rw [eqv_int]
          by_cases hk : (c : Int) - 48 = k
          · rw [decide_eq_true hk]
            simp only [dVar, dC, dOp, dUn, dTst, dAnd, dOr, dNot, dAndV, dOrV, dNotV, dIfE, dNil, dCons, dTup, dLst, dNew, dCall, dB, dChain, dNext, dSeq, dDrop, dRet, dRetN, dIf, dAsg, gN, gSeq, gT, dPar2, dPar3, dAug, dRaise, dFor, dYes, dLc, dels, del, put, nth, startN, dFrz, dIx, dPart, dNoP, dSl, dApp, dPut, dM1, dFmt, dJs, dJoined, dIsi, dRg1, dRg2, dLsI, dTpI, dStI, dZip, dEnL, dLsRg1, dLsRg2, dNewK, dNewT, dOneT, dSetSort, dLsZip, dNewCan, oAdd, oSub, oMul, oDiv, oMod, oPow, oLt, oLe, oGt, oGe, oIs, oIsNot, oNeg, oIAdd, D.isN, bLen, bInt, bStr, bAbs, bBool, bList, bTuple, D.ty, D.isInt, D.isBool, D.isStr, D.isTup, D.isLst, List.map_cons, List.map_nil, List.length_cons, List.length_nil, List.replicate_succ, List.replicate_zero, List.cons_append, List.nil_append, Option.isSome_some, if_true, if_false, Bool.false_eq_true, reduceIte, Nat.reduceAdd, Nat.reduceSub, Bool.not_true, Bool.not_false, true_and, and_true]
            refine hN _ _ ⟨⟨_, _, rfl⟩, rfl, ?_⟩
            rw [← hg]
            simp only [goesB, decide_eq_true hk, Bool.or_true, Bool.true_and]
          · rw [decide_eq_false hk]
            simp only [dVar, dC, dOp, dUn, dTst, dAnd, dOr, dNot, dAndV, dOrV, dNotV, dIfE, dNil, dCons, dTup, dLst, dNew, dCall, dB, dChain, dNext, dSeq, dDrop, dRet, dRetN, dIf, dAsg, gN, gSeq, gT, dPar2, dPar3, dAug, dRaise, dFor, dYes, dLc, dels, del, put, nth, startN, dFrz, dIx, dPart, dNoP, dSl, dApp, dPut, dM1, dFmt, dJs, dJoined, dIsi, dRg1, dRg2, dLsI, dTpI, dStI, dZip, dEnL, dLsRg1, dLsRg2, dNewK, dNewT, dOneT, dSetSort, dLsZip, dNewCan, oAdd, oSub, oMul, oDiv, oMod, oPow, oLt, oLe, oGt, oGe, oIs, oIsNot, oNeg, oIAdd, D.isN, bLen, bInt, bStr, bAbs, bBool, bList, bTuple, D.ty, D.isInt, D.isBool, D.isStr, D.isTup, D.isLst, List.map_cons, List.map_nil, List.length_cons, List.length_nil, List.replicate_succ, List.replicate_zero, List.cons_append, List.nil_append, Option.isSome_some, if_true, if_false, Bool.false_eq_true, reduceIte, Nat.reduceAdd, Nat.reduceSub, Bool.not_true, Bool.not_false, true_and, and_true]
            have e : goesB cs ks = false := by
              rw [← hg]
              simp only [goesB, decide_eq_false hk, decide_eq_false h46, Bool.or_false, Bool.false_and]
            rw [e] at q
            exact fg_self q
  · rintro ρ M' ⟨⟨o3, o4, rfl⟩, rfl, hg⟩
    simp only [dVar, dC, dOp, dUn, dTst, dAnd, dOr, dNot, dAndV, dOrV, dNotV, dIfE, dNil, dCons, dTup, dLst, dNew, dCall, dB, dChain, dNext, dSeq, dDrop, dRet, dRetN, dIf, dAsg, gN, gSeq, gT, dPar2, dPar3, dAug, dRaise, dFor, dYes, dLc, dels, del, put, nth, startN, dFrz, dIx, dPart, dNoP, dSl, dApp, dPut, dM1, dFmt, dJs, dJoined, dIsi, dRg1, dRg2, dLsI, dTpI, dStI, dZip, dEnL, dLsRg1, dLsRg2, dNewK, dNewT, dOneT, dSetSort, dLsZip, dNewCan, oAdd, oSub, oMul, oDiv, oMod, oPow, oLt, oLe, oGt, oGe, oIs, oIsNot, oNeg, oIAdd, D.isN, bLen, bInt, bStr, bAbs, bBool, bList, bTuple, D.ty, D.isInt, D.isBool, D.isStr, D.isTup, D.isLst, List.map_cons, List.map_nil, List.length_cons, List.length_nil, List.replicate_succ, List.replicate_zero, List.cons_append, List.nil_append, Option.isSome_some, if_true, if_false, Bool.false_eq_true, reduceIte, Nat.reduceAdd, Nat.reduceSub, Bool.not_true, Bool.not_false, true_and, and_true]
    have e : goesB cs ks = true := by
      rw [← hg, zipD_length, List.length_map, List.length_map]
      rcases Nat.le_total cs.length ks.length with z | z
      · rw [Nat.min_eq_left z, List.drop_length]
        cases ks.drop cs.length <;> rfl
      · rw [Nat.min_eq_right z, List.drop_length]
        cases cs.drop ks.length <;> rfl
    rw [e] at q
    exact fg_self q
end Dl
namespace Dl
open PySem
/-! # all_runs, houses_for, untrue -/
def subs : Nat → List (List Nat)
  | 0 => [[]]
  | n + 1 => subs n ++ (subs n).map (· ++ [n])
def lxs : Nat → Nat → List (List Nat)
  | 0, _ => [[]]
  | n + 1, a => [] :: ((lxs n (a + 1)).map (a :: ·) ++ (lxs n (a + 1)).drop 1)
def runs : List (List Nat) := (lxs 7 0).drop 1
def ltN : List Nat → List Nat → Bool
  | [], [] => false
  | [], _ :: _ => true
  | _ :: _, [] => false
  | a :: l, b :: m => Nat.blt a b || (Nat.beq a b && ltN l m)
def wD (l : List Nat) : D := .str (wk l)
theorem wk_cps (l : List Nat) : (wk l).cps.toList = l.map fun d => 48 + d := by simp [wk]
theorem lt_wk : ∀ l m : List Nat, ((l.map fun d => 48 + d) < (m.map fun d => 48 + d)) ↔ ltN l m = true
  | [], [] => by simp [ltN]
  | [], b :: m => by simp [ltN]
  | a :: l, [] => by simp [ltN]
  | a :: l, b :: m => by
    have h1 : (48 + a < 48 + b) = (a < b) := propext (by omega)
    have h2 : (48 + a = 48 + b) = (a = b) := propext (by omega)
    rw [List.map_cons, List.map_cons, List.cons_lt_cons_iff, lt_wk l m, h1, h2]
    have h3 : (a.beq b = true) = (a = b) := propext ⟨Nat.eq_of_beq_eq_true, fun e => e ▸ Nat.beq_refl a⟩
    simp only [ltN, Bool.or_eq_true, Bool.and_eq_true, Nat.blt_eq, h3]
theorem subs_mem : ∀ {n : Nat} {l : List Nat}, l ∈ subs n → ∀ d ∈ l, d < n
  | 0, l, h, d, hd => by simp [subs] at h; subst h; cases hd
  | n + 1, l, h, d, hd => by
    rcases List.mem_append.mp h with z | z
    · have := subs_mem z d hd; omega
    · obtain ⟨m, hm, rfl⟩ := List.mem_map.mp z
      rcases List.mem_append.mp hd with y | y
      · have := subs_mem hm d y; omega
      · rw [List.mem_singleton.mp y]; omega
theorem subs_len : ∀ n, (subs n).length = 2 ^ n
  | 0 => rfl
  | n + 1 => by simp only [subs, List.length_append, List.length_map, subs_len n]; omega
theorem subs_asc : ∀ {n : Nat} {l : List Nat}, l ∈ subs n → l.Pairwise (· < ·)
  | 0, l, h => by simp [subs] at h; subst h; exact .nil
  | n + 1, l, h => by
    rcases List.mem_append.mp h with z | z
    · exact subs_asc z
    · obtain ⟨m, hm, rfl⟩ := List.mem_map.mp z
      rw [List.pairwise_append]
      exact ⟨subs_asc hm, .cons (fun _ h => by cases h) .nil, fun a ha b hb => by rw [List.mem_singleton.mp hb]; exact subs_mem hm a ha⟩
theorem subs_Asc {n : Nat} {l : List Nat} (hn : n ≤ 7) (h : l ∈ subs n) : Asc l := ⟨subs_asc h, fun d hd => by have := subs_mem h d hd; omega⟩
theorem subs_perm : (subs 7).Perm (lxs 7 0) := List.isPerm_iff.mp (by decide +kernel)
theorem lxs_sorted : (lxs 7 0).Pairwise (fun a b => ltN a b = true) := by
  have h : (List.all (List.range 128) fun i => List.all (List.range 128) fun j => !decide (i < j) || ltN ((lxs 7 0).getD i []) ((lxs 7 0).getD j [])) = true := by decide +kernel
  rw [List.pairwise_iff_getElem]
  intro i j hi hj hij
  have h128 : (lxs 7 0).length = 128 := by decide +kernel
  rw [List.all_eq_true] at h
  have h1 := h i (List.mem_range.mpr (by omega))
  rw [List.all_eq_true] at h1
  have h2 := h1 j (List.mem_range.mpr (by omega))
  rw [decide_eq_true hij, List.getD_eq_getElem?_getD, List.getD_eq_getElem?_getD, List.getElem?_eq_getElem hi, List.getElem?_eq_getElem hj] at h2
  simpa using h2
theorem sort_subs : sortD ((subs 7).map wD) = (lxs 7 0).map wD := by
  unfold sortD
  have e : ∀ a b : List Nat, D.leS (wD a) (wD b) = decide ((wk a).cps.toList ≤ (wk b).cps.toList) := fun a b => by
    have := congrFun (congrFun (PySem.W.dataLe_str (β := List Nat) wk) a) b
    rw [PySem.W.dataLe_eq] at this
    exact this
  rw [← List.map_mergeSort (r := fun a b => decide ((wk a).cps.toList ≤ (wk b).cps.toList)) (f := wD) (fun a _ b _ => (e a b).symm)]
  congr 1
  have p : ((subs 7).mergeSort fun a b => decide ((wk a).cps.toList ≤ (wk b).cps.toList)).Perm (lxs 7 0) := (List.mergeSort_perm _ _).trans subs_perm
  have s1 := List.pairwise_mergeSort (le := fun a b : List Nat => decide ((wk a).cps.toList ≤ (wk b).cps.toList)) (fun a b c h1 h2 => decide_eq_true (List.le_trans (of_decide_eq_true h1) (of_decide_eq_true h2))) (fun a b => by
    rcases List.le_total (wk a).cps.toList (wk b).cps.toList with h | h <;> simp [h]) (subs 7)
  have s2 : (lxs 7 0).Pairwise (fun a b => decide ((wk a).cps.toList ≤ (wk b).cps.toList) = true) := lxs_sorted.imp fun {a b} h => decide_eq_true (List.le_of_lt (by rw [wk_cps, wk_cps]; exact (lt_wk a b).mpr h))
  refine p.eq_of_pairwise (fun a b _ _ h1 h2 => ?_) s1 s2
  have := List.le_antisymm (of_decide_eq_true h1) (of_decide_eq_true h2)
  rw [wk_cps, wk_cps] at this
  exact (List.map_inj_right fun x y h => by omega).mp this
theorem ok_wD {l : List Nat} (a : Asc l) : (wD l).ok := wkZ_ok (wkZ_wk a)
theorem sortok_subs : SortOk ((subs 7).map wD) := by
  refine ⟨fun d hd => ?_, ?_, ?_⟩
  · obtain ⟨l, hl, rfl⟩ := List.mem_map.mp hd; exact ok_wD (subs_Asc (Nat.le_refl _) hl)
  · intro d hd d' hd'
    obtain ⟨_, hx, rfl⟩ := List.mem_map.mp hd
    obtain ⟨_, hy, rfl⟩ := List.mem_map.mp hd'
    obtain ⟨p, _, rfl⟩ := List.mem_map.mp hx
    obtain ⟨q, _, rfl⟩ := List.mem_map.mp hy
    rfl
  · refine .inr fun d hd => ?_
    obtain ⟨_, hx, rfl⟩ := List.mem_map.mp hd
    obtain ⟨p, _, rfl⟩ := List.mem_map.mp hx
    exact ⟨fun e => (by cases e), fun xs e => (by cases e)⟩
def S_all_runs : DSp := fun ds M Q R => ds = [] ∧ Q (.lst (runs.map wD)) M
def t_all_runs : DTS := dSeq (dAsg (dLst (dCons (dC (.str ("" : Str))) (dNil))) (gN 0)) (dSeq (dFor (dStI (dC (.str ("0123456" : Str)))) (gN 1) (dAsg (dOp oAdd (dVar 0) (dLc [2] (dLsI (dVar 0)) (gN 2) (dYes) (dOp oAdd (dVar 2) (dVar 1)))) (gN 0))) (dRet (dSl (dB bSorted (dCons (dVar 0) (dNil))) (dPart (dC (.int 1))) (dNoP))))
def D.wl : D → List Nat
  | .str z => z.cps.toList.map (· - 48)
  | _ => []
theorem wl_wD (l : List Nat) : (wD l).wl = l := by
  simp only [wD, D.wl, wk_cps, List.map_map]
  conv => rhs; rw [← List.map_id l]
  apply List.map_congr_left; intro a _; simp
theorem wk_app (l : List Nat) (d : Nat) : wk l ++ fg d = wk (l ++ [d]) := by
  show Str.mk ((wk l).cps ++ (fg d).cps) = _
  unfold wk fg
  congr 1
  apply Array.toList_inj.mp
  rw [Array.toList_append, List.map_append]
  rfl
theorem sub_app (n : Nat) : (subs n).map wD ++ ((subs n).map wD).map (fun x => wD (x.wl ++ [n])) = (subs (n + 1)).map wD := by
  rw [subs, List.map_append, List.map_map, List.map_map]
  congr 1
  apply List.map_congr_left; intro a _; simp only [Function.comp, wl_wD]
theorem figs_wk : ("0123456" : Str) = wk [0, 1, 2, 3, 4, 5, 6] := by decide +kernel
theorem kp_all_runs : Keeps S_all_runs 3 t_all_runs := by
  rintro ds M Q R ⟨rfl, q⟩
  simp only [t_all_runs, dVar, dC, dOp, dUn, dTst, dAnd, dOr, dNot, dAndV, dOrV, dNotV, dIfE, dNil, dCons, dTup, dLst, dNew, dCall, dB, dChain, dNext, dSeq, dDrop, dRet, dRetN, dIf, dAsg, gN, gSeq, gT, dPar2, dPar3, dAug, dRaise, dFor, dYes, dLc, dels, del, put, nth, startN, dFrz, dIx, dPart, dNoP, dSl, dApp, dPut, dM1, dFmt, dJs, dJoined, dIsi, dRg1, dRg2, dLsI, dTpI, dStI, dZip, dEnL, dLsRg1, dLsRg2, dNewK, dNewT, dOneT, dSetSort, dLsZip, dNewCan, oAdd, oSub, oMul, oDiv, oMod, oPow, oLt, oLe, oGt, oGe, oIs, oIsNot, oNeg, oIAdd, D.isN, bLen, bInt, bStr, bAbs, bBool, bList, bTuple, D.ty, D.isInt, D.isBool, D.isStr, D.isTup, D.isLst, List.map_cons, List.map_nil, List.length_cons, List.length_nil, List.replicate_succ, List.replicate_zero, List.cons_append, List.nil_append, Option.isSome_some, if_true, if_false, Bool.false_eq_true, reduceIte, Nat.reduceAdd, Nat.reduceSub, Bool.not_true, Bool.not_false, true_and, and_true]
  refine ⟨by decide, _, rfl, ?_⟩
  rw [figs_wk, wk_ch]
  refine loop_inv (fun i ρ M' => M' = M ∧ ∃ o1 o2, ρ = [some (.lst ((subs i).map wD)), o1, o2]) _ ⟨rfl, none, none, rfl⟩ ?_ ?_
  · rintro i d ρ M' N hd ⟨rfl, o1, o2, rfl⟩ hN
    have hi : i < 7 := by
      have := (List.getElem?_eq_some_iff.mp hd).1
      simpa using this
    have hd' : d = .str (fg i) := by
      have e : i = 0 ∨ i = 1 ∨ i = 2 ∨ i = 3 ∨ i = 4 ∨ i = 5 ∨ i = 6 := by omega
      rcases e with e | e | e | e | e | e | e <;> (subst e; cases hd; rfl)
    subst hd'
    have hlen : (subs i).length ≤ 64 := by
      rw [subs_len]
      exact Nat.pow_le_pow_right (by decide) (show i ≤ 6 by omega)
    simp only [dVar, dC, dOp, dUn, dTst, dAnd, dOr, dNot, dAndV, dOrV, dNotV, dIfE, dNil, dCons, dTup, dLst, dNew, dCall, dB, dChain, dNext, dSeq, dDrop, dRet, dRetN, dIf, dAsg, gN, gSeq, gT, dPar2, dPar3, dAug, dRaise, dFor, dYes, dLc, dels, del, put, nth, startN, dFrz, dIx, dPart, dNoP, dSl, dApp, dPut, dM1, dFmt, dJs, dJoined, dIsi, dRg1, dRg2, dLsI, dTpI, dStI, dZip, dEnL, dLsRg1, dLsRg2, dNewK, dNewT, dOneT, dSetSort, dLsZip, dNewCan, oAdd, oSub, oMul, oDiv, oMod, oPow, oLt, oLe, oGt, oGe, oIs, oIsNot, oNeg, oIAdd, D.isN, bLen, bInt, bStr, bAbs, bBool, bList, bTuple, D.ty, D.isInt, D.isBool, D.isStr, D.isTup, D.isLst, List.map_cons, List.map_nil, List.length_cons, List.length_nil, List.replicate_succ, List.replicate_zero, List.cons_append, List.nil_append, Option.isSome_some, if_true, if_false, Bool.false_eq_true, reduceIte, Nat.reduceAdd, Nat.reduceSub, Bool.not_true, Bool.not_false, true_and, and_true]
    refine ⟨_, rfl, by rw [List.length_map]; omega, lc_map (fun x => wD (x.wl ++ [i])) _ (fun x hx k hk => ?_) ?_⟩
    · obtain ⟨l, hl, rfl⟩ := List.mem_map.mp hx
      rw [wl_wD] at hk
      have := (subs_Asc (by omega) hl).len
      simp only [dVar, dC, dOp, dUn, dTst, dAnd, dOr, dNot, dAndV, dOrV, dNotV, dIfE, dNil, dCons, dTup, dLst, dNew, dCall, dB, dChain, dNext, dSeq, dDrop, dRet, dRetN, dIf, dAsg, gN, gSeq, gT, dPar2, dPar3, dAug, dRaise, dFor, dYes, dLc, dels, del, put, nth, startN, dFrz, dIx, dPart, dNoP, dSl, dApp, dPut, dM1, dFmt, dJs, dJoined, dIsi, dRg1, dRg2, dLsI, dTpI, dStI, dZip, dEnL, dLsRg1, dLsRg2, dNewK, dNewT, dOneT, dSetSort, dLsZip, dNewCan, oAdd, oSub, oMul, oDiv, oMod, oPow, oLt, oLe, oGt, oGe, oIs, oIsNot, oNeg, oIAdd, D.isN, bLen, bInt, bStr, bAbs, bBool, bList, bTuple, D.ty, D.isInt, D.isBool, D.isStr, D.isTup, D.isLst, List.map_cons, List.map_nil, List.length_cons, List.length_nil, List.replicate_succ, List.replicate_zero, List.cons_append, List.nil_append, Option.isSome_some, if_true, if_false, Bool.false_eq_true, reduceIte, Nat.reduceAdd, Nat.reduceSub, Bool.not_true, Bool.not_false, true_and, and_true, wD]
      refine ⟨by rw [wk_length]; show l.length + 1 ≤ _; omega, ?_⟩
      rw [wk_app]; exact hk
    · simp only [oAdd, gN, put]
      refine ⟨by rw [List.length_map, List.length_map, List.length_map]; omega, ?_⟩
      rw [sub_app]
      exact hN _ _ ⟨rfl, _, _, rfl⟩
  · rintro ρ M' ⟨rfl, o1, o2, rfl⟩
    simp only [dVar, dC, dOp, dUn, dTst, dAnd, dOr, dNot, dAndV, dOrV, dNotV, dIfE, dNil, dCons, dTup, dLst, dNew, dCall, dB, dChain, dNext, dSeq, dDrop, dRet, dRetN, dIf, dAsg, gN, gSeq, gT, dPar2, dPar3, dAug, dRaise, dFor, dYes, dLc, dels, del, put, nth, startN, dFrz, dIx, dPart, dNoP, dSl, dApp, dPut, dM1, dFmt, dJs, dJoined, dIsi, dRg1, dRg2, dLsI, dTpI, dStI, dZip, dEnL, dLsRg1, dLsRg2, dNewK, dNewT, dOneT, dSetSort, dLsZip, dNewCan, oAdd, oSub, oMul, oDiv, oMod, oPow, oLt, oLe, oGt, oGe, oIs, oIsNot, oNeg, oIAdd, D.isN, bLen, bInt, bStr, bAbs, bBool, bList, bTuple, D.ty, D.isInt, D.isBool, D.isStr, D.isTup, D.isLst, List.map_cons, List.map_nil, List.length_cons, List.length_nil, List.replicate_succ, List.replicate_zero, List.cons_append, List.nil_append, Option.isSome_some, if_true, if_false, Bool.false_eq_true, reduceIte, Nat.reduceAdd, Nat.reduceSub, Bool.not_true, Bool.not_false, true_and, and_true, bSorted]
    refine ⟨sortok_subs, ?_⟩
    show Fg M' (Q (.lst (cutD (sortD ((subs 7).map wD)) (some 1) none)))
    rw [sort_subs, cutD1, ← List.map_drop]
    exact fg_self q
/-! ### houses_for -/
def fits (w : List Nat) (ns : List Int) (cs : List Nat) (r : List Nat) (s : Nat) : Bool := (Hs.mk w r s).okB && goesB cs (cnts ⟨w, r, s⟩ ns cs.length 0 0)
def forRun (w : List Nat) (ns : List Int) (cs : List Nat) (acc : List (List Nat × Nat)) (r : List Nat) : List (List Nat × Nat) :=
  [1, 2, 3].foldl (fun acc s => if fits w ns cs r s = true then acc ++ [(r, s)] else acc) acc
def rsD (p : List Nat × Nat) : D := .tup [wD p.1, .int (p.2 : Nat)]
def housesFor (w : List Nat) (ns : List Int) (cs : List Nat) : List (List Nat × Nat) := runs.foldl (forRun w ns cs) []
def S_houses_for : DSp := fun ds M Q R => ∃ (w : List Nat) (ns : List Int) (z : Str), Asc w ∧ w ≠ [] ∧ CalOk ns ∧ (D.str z).seenB = true ∧ ds = [.str (wk w), cal ns, .str z] ∧ Q (.lst ((housesFor w ns z.cps.toList).map rsD)) M
def t_houses_for : DTS := dSeq (dIf (dOr (dNot (dTst (dCall S_are_weekdays (dCons (dVar 0) (dNil))))) (dTst (dOp oEq (dVar 0) (dC (.str ("" : Str)))))) (dRaise "InvalidWeekdays") (dNext)) (dSeq (dDrop (dCall S_need_calendar (dCons (dVar 1) (dNil)))) (dSeq (dIf (dNot (dTst (dCall S_is_seen (dCons (dVar 2) (dNil))))) (dRaise "InvalidSeen") (dNext)) (dSeq (dAsg (dNew (dNil)) (gN 3)) (dSeq (dFor (dLsI (dCall S_all_runs dNil)) (gN 4) (dFor (dRg2 (dC (.int 1)) (dOp oAdd (dC (.int 3)) (dC (.int 1)))) (gN 5) (dIf (dAnd (dTst (dCall S_is_house (dCons (dTup (dCons (dVar 0) (dCons (dVar 4) (dCons (dVar 5) (dNil))))) (dNil)))) (dTst (dCall S_goes_with (dCons (dTup (dCons (dVar 0) (dCons (dVar 4) (dCons (dVar 5) (dNil))))) (dCons (dVar 1) (dCons (dVar 2) (dNil))))))) (dDrop (dApp (dVar 3) (dTup (dCons (dVar 4) (dCons (dVar 5) (dNil)))))) (dNext)))) (dRet (dFrz (dVar 3)))))))
theorem runs_Asc {l : List Nat} (h : l ∈ runs) : Asc l := subs_Asc (Nat.le_refl _) (subs_perm.mem_iff.mpr (List.mem_of_mem_drop h))
theorem runs_len : runs.length = 127 := by decide +kernel
theorem forRun_len (w : List Nat) (ns : List Int) (cs : List Nat) (acc : List (List Nat × Nat)) (r : List Nat) : (forRun w ns cs acc r).length ≤ acc.length + 3 := by
  have one : ∀ (acc : List (List Nat × Nat)) s, (if fits w ns cs r s = true then acc ++ [(r, s)] else acc).length ≤ acc.length + 1 := fun acc s => by
    split <;> simp
  unfold forRun
  simp only [List.foldl_cons, List.foldl_nil]
  have h1 := one acc 1
  have h2 := one (if fits w ns cs r 1 = true then acc ++ [(r, 1)] else acc) 2
  have h3 := one (if fits w ns cs r 2 = true then (if fits w ns cs r 1 = true then acc ++ [(r, 1)] else acc) ++ [(r, 2)] else (if fits w ns cs r 1 = true then acc ++ [(r, 1)] else acc)) 3
  omega
theorem forRuns_len (w : List Nat) (ns : List Int) (cs : List Nat) : ∀ (l : List (List Nat)) (acc : List (List Nat × Nat)), (l.foldl (forRun w ns cs) acc).length ≤ acc.length + 3 * l.length
  | [], acc => Nat.le_refl _
  | r :: l, acc => by
    have h1 := forRun_len w ns cs acc r
    have h2 := forRuns_len w ns cs l (forRun w ns cs acc r)
    rw [List.foldl_cons, List.length_cons]
    omega
theorem houseB_Hs {w r : List Nat} {s : Nat} (aw : Asc w) (ar : Asc r) (hs : 1 ≤ s ∧ s ≤ 3) : (Hs.mk w r s).d.houseB = (Hs.mk w r s).okB := by
  simp only [D.houseB, Hs.d, Hs.okB]
  rw [wkZ_wk aw, wkZ_wk ar, wk_length, wk_length, decide_eq_true aw, decide_eq_true ar, decide_eq_true hs.1, decide_eq_true hs.2, decide_eq_true (show (1 : Int) ≤ (s : Int) by omega), decide_eq_true (show (s : Int) ≤ 3 by omega)]
  simp only [Bool.true_and, Bool.and_true]
  have e1 : decide (w.length = 0) = w.isEmpty := by cases w <;> simp
  have e2 : decide (r.length = 0) = r.isEmpty := by cases r <;> simp
  have e3 : decide ((w.length : Int) ≤ (s : Int) * (r.length : Int)) = decide (w.length ≤ s * r.length) := decide_eq_decide.mpr (by norm_cast)
  rw [e1, e2, e3, Bool.and_assoc]
theorem fine2_Hs {w r : List Nat} {s : Nat} (aw : Asc w) (ar : Asc r) : (Hs.mk w r s).d.fine2 := ⟨⟨rfl, fun z e => by cases e⟩, fun ds e => by
  cases e
  refine ⟨by simp, fun d hd => ?_⟩
  have h1 := aw.len
  have h2 := ar.len
  simp only [List.mem_cons, List.not_mem_nil, or_false] at hd
  rcases hd with rfl | rfl | rfl
  · exact fine_wk (by show w.length ≤ _; omega)
  · exact fine_wk (by show r.length ≤ _; omega)
  · exact fine_int _⟩
theorem seenB_len {z : Str} (h : (D.str z).seenB = true) : z.length ≤ 40 ∧ seenZ z = true := by
  simp only [D.seenB, Bool.and_eq_true, decide_eq_true_eq] at h
  exact h.2
theorem kp_houses_for : Keeps S_houses_for 6 t_houses_for := by
  rintro ds M Q R ⟨w, ns, z, aw, hw0, hc, hz, rfl, q⟩
  have hzl := seenB_len hz
  have hw1 := List.length_pos_iff.mpr hw0
  have hwl := aw.len
  simp only [t_houses_for, dVar, dC, dOp, dUn, dTst, dAnd, dOr, dNot, dAndV, dOrV, dNotV, dIfE, dNil, dCons, dTup, dLst, dNew, dCall, dB, dChain, dNext, dSeq, dDrop, dRet, dRetN, dIf, dAsg, gN, gSeq, gT, dPar2, dPar3, dAug, dRaise, dFor, dYes, dLc, dels, del, put, nth, startN, dFrz, dIx, dPart, dNoP, dSl, dApp, dPut, dM1, dFmt, dJs, dJoined, dIsi, dRg1, dRg2, dLsI, dTpI, dStI, dZip, dEnL, dLsRg1, dLsRg2, dNewK, dNewT, dOneT, dSetSort, dLsZip, dNewCan, oAdd, oSub, oMul, oDiv, oMod, oPow, oLt, oLe, oGt, oGe, oIs, oIsNot, oNeg, oIAdd, D.isN, bLen, bInt, bStr, bAbs, bBool, bList, bTuple, D.ty, D.isInt, D.isBool, D.isStr, D.isTup, D.isLst, List.map_cons, List.map_nil, List.length_cons, List.length_nil, List.replicate_succ, List.replicate_zero, List.cons_append, List.nil_append, Option.isSome_some, if_true, if_false, Bool.false_eq_true, reduceIte, Nat.reduceAdd, Nat.reduceSub, Bool.not_true, Bool.not_false, true_and, and_true]
  refine ⟨_, fine_wk (by omega), rfl, ?_⟩
  have e1 : (D.str (wk w)).wkB = true := wkZ_wk aw
  rw [e1]
  simp only [dVar, dC, dOp, dUn, dTst, dAnd, dOr, dNot, dAndV, dOrV, dNotV, dIfE, dNil, dCons, dTup, dLst, dNew, dCall, dB, dChain, dNext, dSeq, dDrop, dRet, dRetN, dIf, dAsg, gN, gSeq, gT, dPar2, dPar3, dAug, dRaise, dFor, dYes, dLc, dels, del, put, nth, startN, dFrz, dIx, dPart, dNoP, dSl, dApp, dPut, dM1, dFmt, dJs, dJoined, dIsi, dRg1, dRg2, dLsI, dTpI, dStI, dZip, dEnL, dLsRg1, dLsRg2, dNewK, dNewT, dOneT, dSetSort, dLsZip, dNewCan, oAdd, oSub, oMul, oDiv, oMod, oPow, oLt, oLe, oGt, oGe, oIs, oIsNot, oNeg, oIAdd, D.isN, bLen, bInt, bStr, bAbs, bBool, bList, bTuple, D.ty, D.isInt, D.isBool, D.isStr, D.isTup, D.isLst, List.map_cons, List.map_nil, List.length_cons, List.length_nil, List.replicate_succ, List.replicate_zero, List.cons_append, List.nil_append, Option.isSome_some, if_true, if_false, Bool.false_eq_true, reduceIte, Nat.reduceAdd, Nat.reduceSub, Bool.not_true, Bool.not_false, true_and, and_true]
  refine ⟨ok_wD aw, ok_empty, ?_⟩
  rw [eqv_empty, wk_length, decide_eq_false (by omega)]
  simp only [dVar, dC, dOp, dUn, dTst, dAnd, dOr, dNot, dAndV, dOrV, dNotV, dIfE, dNil, dCons, dTup, dLst, dNew, dCall, dB, dChain, dNext, dSeq, dDrop, dRet, dRetN, dIf, dAsg, gN, gSeq, gT, dPar2, dPar3, dAug, dRaise, dFor, dYes, dLc, dels, del, put, nth, startN, dFrz, dIx, dPart, dNoP, dSl, dApp, dPut, dM1, dFmt, dJs, dJoined, dIsi, dRg1, dRg2, dLsI, dTpI, dStI, dZip, dEnL, dLsRg1, dLsRg2, dNewK, dNewT, dOneT, dSetSort, dLsZip, dNewCan, oAdd, oSub, oMul, oDiv, oMod, oPow, oLt, oLe, oGt, oGe, oIs, oIsNot, oNeg, oIAdd, D.isN, bLen, bInt, bStr, bAbs, bBool, bList, bTuple, D.ty, D.isInt, D.isBool, D.isStr, D.isTup, D.isLst, List.map_cons, List.map_nil, List.length_cons, List.length_nil, List.replicate_succ, List.replicate_zero, List.cons_append, List.nil_append, Option.isSome_some, if_true, if_false, Bool.false_eq_true, reduceIte, Nat.reduceAdd, Nat.reduceSub, Bool.not_true, Bool.not_false, true_and, and_true]
  refine needC hc ⟨_, ⟨rfl, fun z' e => by cases e; omega⟩, rfl, ?_⟩
  rw [hz]
  simp only [dVar, dC, dOp, dUn, dTst, dAnd, dOr, dNot, dAndV, dOrV, dNotV, dIfE, dNil, dCons, dTup, dLst, dNew, dCall, dB, dChain, dNext, dSeq, dDrop, dRet, dRetN, dIf, dAsg, gN, gSeq, gT, dPar2, dPar3, dAug, dRaise, dFor, dYes, dLc, dels, del, put, nth, startN, dFrz, dIx, dPart, dNoP, dSl, dApp, dPut, dM1, dFmt, dJs, dJoined, dIsi, dRg1, dRg2, dLsI, dTpI, dStI, dZip, dEnL, dLsRg1, dLsRg2, dNewK, dNewT, dOneT, dSetSort, dLsZip, dNewCan, oAdd, oSub, oMul, oDiv, oMod, oPow, oLt, oLe, oGt, oGe, oIs, oIsNot, oNeg, oIAdd, D.isN, bLen, bInt, bStr, bAbs, bBool, bList, bTuple, D.ty, D.isInt, D.isBool, D.isStr, D.isTup, D.isLst, List.map_cons, List.map_nil, List.length_cons, List.length_nil, List.replicate_succ, List.replicate_zero, List.cons_append, List.nil_append, Option.isSome_some, if_true, if_false, Bool.false_eq_true, reduceIte, Nat.reduceAdd, Nat.reduceSub, Bool.not_true, Bool.not_false, true_and, and_true]
  refine ⟨by decide, fun p hp => ⟨rfl, _, rfl, ?_⟩⟩
  refine loop_inv (fun i ρ M' => ∃ o4 o5, ρ = [some (.str (wk w)), some (cal ns), some (.str z), some (.obj p), o4, o5] ∧ M' = (p, .lst (((runs.take i).foldl (forRun w ns z.cps.toList) []).map rsD)) :: M) _ ⟨none, none, rfl, rfl⟩ ?_ ?_
  · rintro i d ρ M' N hd ⟨o4, o5, rfl, rfl⟩ hN
    rw [List.getElem?_map] at hd
    cases e : runs[i]? with
    | none => rw [e] at hd; cases hd
    | some r =>
      rw [e] at hd
      cases hd
      have ar := runs_Asc (List.mem_of_getElem? e)
      have hal := forRuns_len w ns z.cps.toList (runs.take i) []
      have hil : (runs.take i).length ≤ 127 := by rw [List.length_take, runs_len]; omega
      have hend : (runs.take (i + 1)).foldl (forRun w ns z.cps.toList) [] = forRun w ns z.cps.toList ((runs.take i).foldl (forRun w ns z.cps.toList) []) r := foldl_take _ e _
      generalize ((runs.take i).foldl (forRun w ns z.cps.toList) []) = acc at hal hend ⊢
      simp only [List.length_nil, Nat.zero_add] at hal
      simp only [dVar, dC, dOp, dUn, dTst, dAnd, dOr, dNot, dAndV, dOrV, dNotV, dIfE, dNil, dCons, dTup, dLst, dNew, dCall, dB, dChain, dNext, dSeq, dDrop, dRet, dRetN, dIf, dAsg, gN, gSeq, gT, dPar2, dPar3, dAug, dRaise, dFor, dYes, dLc, dels, del, put, nth, startN, dFrz, dIx, dPart, dNoP, dSl, dApp, dPut, dM1, dFmt, dJs, dJoined, dIsi, dRg1, dRg2, dLsI, dTpI, dStI, dZip, dEnL, dLsRg1, dLsRg2, dNewK, dNewT, dOneT, dSetSort, dLsZip, dNewCan, oAdd, oSub, oMul, oDiv, oMod, oPow, oLt, oLe, oGt, oGe, oIs, oIsNot, oNeg, oIAdd, D.isN, bLen, bInt, bStr, bAbs, bBool, bList, bTuple, D.ty, D.isInt, D.isBool, D.isStr, D.isTup, D.isLst, List.map_cons, List.map_nil, List.length_cons, List.length_nil, List.replicate_succ, List.replicate_zero, List.cons_append, List.nil_append, Option.isSome_some, if_true, if_false, Bool.false_eq_true, reduceIte, Nat.reduceAdd, Nat.reduceSub, Bool.not_true, Bool.not_false, true_and, and_true]
      refine ⟨_, _, rfl, rfl, ?_⟩
      have e3 : ((3 : Int) + 1 - 1).toNat = 3 := by decide
      rw [e3]
      refine loop_inv (fun j ρ M' => ∃ o5, ρ = [some (.str (wk w)), some (cal ns), some (.str z), some (.obj p), some (wD r), o5] ∧ M' = (p, .lst ((([1, 2, 3].take j).foldl (fun acc s => if fits w ns z.cps.toList r s = true then acc ++ [(r, s)] else acc) acc).map rsD)) :: M ∧ (([1, 2, 3].take j).foldl (fun acc s => if fits w ns z.cps.toList r s = true then acc ++ [(r, s)] else acc) acc).length ≤ acc.length + j) _ ⟨_, rfl, rfl, Nat.le_refl _⟩ ?_ ?_
      · rintro j d ρ M' N2 hd ⟨o5, rfl, rfl, hl⟩ hN2
        have hj : j < 3 := by
          have := (List.getElem?_eq_some_iff.mp hd).1
          rwa [rgD_length] at this
        rw [rgD_get hj] at hd
        cases hd
        have ej : [1, 2, 3][j]? = some (j + 1) := by
          have : j = 0 ∨ j = 1 ∨ j = 2 := by omega
          rcases this with z | z | z <;> (subst z; rfl)
        have hend2 := foldl_take (fun (acc : List (List Nat × Nat)) s => if fits w ns z.cps.toList r s = true then acc ++ [(r, s)] else acc) ej acc
        generalize (([1, 2, 3].take j).foldl (fun acc s => if fits w ns z.cps.toList r s = true then acc ++ [(r, s)] else acc) acc) = a1 at hl hend2 ⊢
        have ei : (1 : Int) + (j : Nat) = ((j + 1 : Nat) : Int) := by omega
        rw [ei]
        have hB := houseB_Hs (w := w) (r := r) (s := j + 1) aw ar ⟨by omega, by omega⟩
        simp only [dVar, dC, dOp, dUn, dTst, dAnd, dOr, dNot, dAndV, dOrV, dNotV, dIfE, dNil, dCons, dTup, dLst, dNew, dCall, dB, dChain, dNext, dSeq, dDrop, dRet, dRetN, dIf, dAsg, gN, gSeq, gT, dPar2, dPar3, dAug, dRaise, dFor, dYes, dLc, dels, del, put, nth, startN, dFrz, dIx, dPart, dNoP, dSl, dApp, dPut, dM1, dFmt, dJs, dJoined, dIsi, dRg1, dRg2, dLsI, dTpI, dStI, dZip, dEnL, dLsRg1, dLsRg2, dNewK, dNewT, dOneT, dSetSort, dLsZip, dNewCan, oAdd, oSub, oMul, oDiv, oMod, oPow, oLt, oLe, oGt, oGe, oIs, oIsNot, oNeg, oIAdd, D.isN, bLen, bInt, bStr, bAbs, bBool, bList, bTuple, D.ty, D.isInt, D.isBool, D.isStr, D.isTup, D.isLst, List.map_cons, List.map_nil, List.length_cons, List.length_nil, List.replicate_succ, List.replicate_zero, List.cons_append, List.nil_append, Option.isSome_some, if_true, if_false, Bool.false_eq_true, reduceIte, Nat.reduceAdd, Nat.reduceSub, Bool.not_true, Bool.not_false, true_and, and_true]
        refine ⟨by decide, (Hs.mk w r (j + 1)).d, fine2_Hs aw ar, rfl, ?_⟩
        rw [hB]
        cases hok : (Hs.mk w r (j + 1)).okB with
        | false =>
          simp only [dVar, dC, dOp, dUn, dTst, dAnd, dOr, dNot, dAndV, dOrV, dNotV, dIfE, dNil, dCons, dTup, dLst, dNew, dCall, dB, dChain, dNext, dSeq, dDrop, dRet, dRetN, dIf, dAsg, gN, gSeq, gT, dPar2, dPar3, dAug, dRaise, dFor, dYes, dLc, dels, del, put, nth, startN, dFrz, dIx, dPart, dNoP, dSl, dApp, dPut, dM1, dFmt, dJs, dJoined, dIsi, dRg1, dRg2, dLsI, dTpI, dStI, dZip, dEnL, dLsRg1, dLsRg2, dNewK, dNewT, dOneT, dSetSort, dLsZip, dNewCan, oAdd, oSub, oMul, oDiv, oMod, oPow, oLt, oLe, oGt, oGe, oIs, oIsNot, oNeg, oIAdd, D.isN, bLen, bInt, bStr, bAbs, bBool, bList, bTuple, D.ty, D.isInt, D.isBool, D.isStr, D.isTup, D.isLst, List.map_cons, List.map_nil, List.length_cons, List.length_nil, List.replicate_succ, List.replicate_zero, List.cons_append, List.nil_append, Option.isSome_some, if_true, if_false, Bool.false_eq_true, reduceIte, Nat.reduceAdd, Nat.reduceSub, Bool.not_true, Bool.not_false, true_and, and_true]
          refine hN2 _ _ ⟨_, rfl, ?_, ?_⟩
          · rw [hend2]
            simp only [fits, hok, Bool.false_and, Bool.false_eq_true, if_false]
          · rw [hend2]
            simp only [fits, hok, Bool.false_and, Bool.false_eq_true, if_false]; omega
        | true =>
          simp only [dVar, dC, dOp, dUn, dTst, dAnd, dOr, dNot, dAndV, dOrV, dNotV, dIfE, dNil, dCons, dTup, dLst, dNew, dCall, dB, dChain, dNext, dSeq, dDrop, dRet, dRetN, dIf, dAsg, gN, gSeq, gT, dPar2, dPar3, dAug, dRaise, dFor, dYes, dLc, dels, del, put, nth, startN, dFrz, dIx, dPart, dNoP, dSl, dApp, dPut, dM1, dFmt, dJs, dJoined, dIsi, dRg1, dRg2, dLsI, dTpI, dStI, dZip, dEnL, dLsRg1, dLsRg2, dNewK, dNewT, dOneT, dSetSort, dLsZip, dNewCan, oAdd, oSub, oMul, oDiv, oMod, oPow, oLt, oLe, oGt, oGe, oIs, oIsNot, oNeg, oIAdd, D.isN, bLen, bInt, bStr, bAbs, bBool, bList, bTuple, D.ty, D.isInt, D.isBool, D.isStr, D.isTup, D.isLst, List.map_cons, List.map_nil, List.length_cons, List.length_nil, List.replicate_succ, List.replicate_zero, List.cons_append, List.nil_append, Option.isSome_some, if_true, if_false, Bool.false_eq_true, reduceIte, Nat.reduceAdd, Nat.reduceSub, Bool.not_true, Bool.not_false, true_and, and_true]
          refine ⟨by decide, ⟨w, r, j + 1⟩, ns, z, Hs.ok_of hok, by omega, hzl.2, rfl, ?_⟩
          have ez : z.length = z.cps.toList.length := by simp [Str.length]
          rw [ez]
          dsimp only
          cases hg : goesB z.cps.toList (cnts ⟨w, r, j + 1⟩ ns z.cps.toList.length 0 0) with
          | false =>
            simp only [dVar, dC, dOp, dUn, dTst, dAnd, dOr, dNot, dAndV, dOrV, dNotV, dIfE, dNil, dCons, dTup, dLst, dNew, dCall, dB, dChain, dNext, dSeq, dDrop, dRet, dRetN, dIf, dAsg, gN, gSeq, gT, dPar2, dPar3, dAug, dRaise, dFor, dYes, dLc, dels, del, put, nth, startN, dFrz, dIx, dPart, dNoP, dSl, dApp, dPut, dM1, dFmt, dJs, dJoined, dIsi, dRg1, dRg2, dLsI, dTpI, dStI, dZip, dEnL, dLsRg1, dLsRg2, dNewK, dNewT, dOneT, dSetSort, dLsZip, dNewCan, oAdd, oSub, oMul, oDiv, oMod, oPow, oLt, oLe, oGt, oGe, oIs, oIsNot, oNeg, oIAdd, D.isN, bLen, bInt, bStr, bAbs, bBool, bList, bTuple, D.ty, D.isInt, D.isBool, D.isStr, D.isTup, D.isLst, List.map_cons, List.map_nil, List.length_cons, List.length_nil, List.replicate_succ, List.replicate_zero, List.cons_append, List.nil_append, Option.isSome_some, if_true, if_false, Bool.false_eq_true, reduceIte, Nat.reduceAdd, Nat.reduceSub, Bool.not_true, Bool.not_false, true_and, and_true]
            refine hN2 _ _ ⟨_, rfl, ?_, ?_⟩
            · rw [hend2]
              simp only [fits, hok, hg, Bool.true_and, Bool.false_eq_true, if_false]
            · rw [hend2]
              simp only [fits, hok, hg, Bool.true_and, Bool.false_eq_true, if_false]; omega
          | true =>
            simp only [dVar, dC, dOp, dUn, dTst, dAnd, dOr, dNot, dAndV, dOrV, dNotV, dIfE, dNil, dCons, dTup, dLst, dNew, dCall, dB, dChain, dNext, dSeq, dDrop, dRet, dRetN, dIf, dAsg, gN, gSeq, gT, dPar2, dPar3, dAug, dRaise, dFor, dYes, dLc, dels, del, put, nth, startN, dFrz, dIx, dPart, dNoP, dSl, dApp, dPut, dM1, dFmt, dJs, dJoined, dIsi, dRg1, dRg2, dLsI, dTpI, dStI, dZip, dEnL, dLsRg1, dLsRg2, dNewK, dNewT, dOneT, dSetSort, dLsZip, dNewCan, oAdd, oSub, oMul, oDiv, oMod, oPow, oLt, oLe, oGt, oGe, oIs, oIsNot, oNeg, oIAdd, D.isN, bLen, bInt, bStr, bAbs, bBool, bList, bTuple, D.ty, D.isInt, D.isBool, D.isStr, D.isTup, D.isLst, List.map_cons, List.map_nil, List.length_cons, List.length_nil, List.replicate_succ, List.replicate_zero, List.cons_append, List.nil_append, Option.isSome_some, if_true, if_false, Bool.false_eq_true, reduceIte, Nat.reduceAdd, Nat.reduceSub, Bool.not_true, Bool.not_false, true_and, and_true]
            refine ⟨p, _, rfl, mget_self, by decide, _, mget_self, by rw [List.length_map]; omega, ?_⟩
            rw [mset_cons_self]
            refine hN2 _ _ ⟨_, rfl, ?_, ?_⟩
            · rw [hend2]
              simp only [fits, hok, hg, Bool.true_and, if_true, List.map_append]
              rfl
            · rw [hend2]
              simp only [fits, hok, hg, Bool.true_and, if_true, List.length_append, List.length_singleton]; omega
      · rintro ρ M' ⟨o5, rfl, rfl, hl⟩
        rw [rgD_length]
        refine hN _ _ ⟨_, _, rfl, ?_⟩
        rw [hend]; rfl
  · rintro ρ M' ⟨o4, o5, rfl, rfl⟩
    rw [List.length_map, List.take_length]
    simp only [dVar, dC, dOp, dUn, dTst, dAnd, dOr, dNot, dAndV, dOrV, dNotV, dIfE, dNil, dCons, dTup, dLst, dNew, dCall, dB, dChain, dNext, dSeq, dDrop, dRet, dRetN, dIf, dAsg, gN, gSeq, gT, dPar2, dPar3, dAug, dRaise, dFor, dYes, dLc, dels, del, put, nth, startN, dFrz, dIx, dPart, dNoP, dSl, dApp, dPut, dM1, dFmt, dJs, dJoined, dIsi, dRg1, dRg2, dLsI, dTpI, dStI, dZip, dEnL, dLsRg1, dLsRg2, dNewK, dNewT, dOneT, dSetSort, dLsZip, dNewCan, oAdd, oSub, oMul, oDiv, oMod, oPow, oLt, oLe, oGt, oGe, oIs, oIsNot, oNeg, oIAdd, D.isN, bLen, bInt, bStr, bAbs, bBool, bList, bTuple, D.ty, D.isInt, D.isBool, D.isStr, D.isTup, D.isLst, List.map_cons, List.map_nil, List.length_cons, List.length_nil, List.replicate_succ, List.replicate_zero, List.cons_append, List.nil_append, Option.isSome_some, if_true, if_false, Bool.false_eq_true, reduceIte, Nat.reduceAdd, Nat.reduceSub, Bool.not_true, Bool.not_false, true_and, and_true, mget_self, mdel_cons_self]
    exact fg_self q
end Dl
namespace Dl
open PySem
/-! # untrue, texts -/
structure U3 where
  found : List Int
  one : Int
  other : Int
def unt1 (s : U3) (day : Int) (a b : Int) : U3 := ⟨if (¬ a = b) ∨ (¬ s.one = s.other ∧ 0 < a) then s.found ++ [day] else s.found, s.one + a, s.other + b⟩
def untGo : Int → List Int → List Int → U3 → U3
  | d, a :: as, b :: bs, s => untGo (d + 1) as bs (unt1 s d a b)
  | _, _, _, s => s
def untr (h : Hs) (n1 n2 : List Int) (n : Nat) : List Int := (untGo 0 (cnts h n1 n 0 0) (cnts h n2 n 0 0) ⟨[], 0, 0⟩).found
def S_untrue : DSp := fun ds M Q R => ∃ (h : Hs) (n1 n2 : List Int) (n : Nat), h.Ok ∧ CalOk n1 ∧ CalOk n2 ∧ n ≤ 400 ∧ ds = [h.d, cal n1, cal n2, .int (n : Int)] ∧ Q (.lst ((untr h n1 n2 n).map D.int)) M
def t_untrue : DTS := dSeq (dDrop (dCall S_need_house (dCons (dVar 0) (dNil)))) (dSeq (dDrop (dCall S_need_calendar (dCons (dVar 1) (dNil)))) (dSeq (dDrop (dCall S_need_calendar (dCons (dVar 2) (dNil)))) (dSeq (dDrop (dCall S_need_number (dCons (dVar 3) (dCons (dC (.int 0)) (dCons (dC (.int 400)) (dNil)))))) (dSeq (dPar3 4 5 6 (dCons (dNew (dNil)) (dCons (dC (.int 0)) (dCons (dC (.int 0)) (dNil))))) (dSeq (dAsg (dLsZip (dCall S_counts_of (dCons (dVar 0) (dCons (dVar 1) (dCons (dVar 3) (dNil))))) (dCall S_counts_of (dCons (dVar 0) (dCons (dVar 2) (dCons (dVar 3) (dNil)))))) (gN 7)) (dSeq (dFor (dEnL (dVar 7)) (gT [gN 8, gT [gN 9, gN 10]]) (dSeq (dIf (dOr (dTst (dOp oNe (dVar 9) (dVar 10))) (dAnd (dTst (dOp oNe (dVar 5) (dVar 6))) (dTst (dOp oGt (dVar 9) (dC (.int 0)))))) (dDrop (dApp (dVar 4) (dVar 8))) (dNext)) (dPar2 5 6 (dCons (dOp oAdd (dVar 5) (dVar 9)) (dCons (dOp oAdd (dVar 6) (dVar 10)) (dNil)))))) (dRet (dFrz (dVar 4)))))))))
theorem unt1_len (s : U3) (d a b : Int) : (unt1 s d a b).found.length ≤ s.found.length + 1 := by
  unfold unt1; dsimp only; split <;> simp
theorem kp_untrue : Keeps S_untrue 11 t_untrue := by
  rintro ds M Q R ⟨h, n1, n2, n, ok, c1, c2, hn, rfl, q⟩
  simp only [t_untrue, dVar, dC, dOp, dUn, dTst, dAnd, dOr, dNot, dAndV, dOrV, dNotV, dIfE, dNil, dCons, dTup, dLst, dNew, dCall, dB, dChain, dNext, dSeq, dDrop, dRet, dRetN, dIf, dAsg, gN, gSeq, gT, dPar2, dPar3, dAug, dRaise, dFor, dYes, dLc, dels, del, put, nth, startN, dFrz, dIx, dPart, dNoP, dSl, dApp, dPut, dM1, dFmt, dJs, dJoined, dIsi, dRg1, dRg2, dLsI, dTpI, dStI, dZip, dEnL, dLsRg1, dLsRg2, dNewK, dNewT, dOneT, dSetSort, dLsZip, dNewCan, oAdd, oSub, oMul, oDiv, oMod, oPow, oLt, oLe, oGt, oGe, oIs, oIsNot, oNeg, oIAdd, D.isN, bLen, bInt, bStr, bAbs, bBool, bList, bTuple, D.ty, D.isInt, D.isBool, D.isStr, D.isTup, D.isLst, List.map_cons, List.map_nil, List.length_cons, List.length_nil, List.replicate_succ, List.replicate_zero, List.cons_append, List.nil_append, Option.isSome_some, if_true, if_false, Bool.false_eq_true, reduceIte, Nat.reduceAdd, Nat.reduceSub, Bool.not_true, Bool.not_false, true_and, and_true]
  refine needH ok (needC c1 (needC c2 (needN (by omega) (by omega) ?_)))
  refine ⟨by decide, fun p hp => ?_⟩
  refine ⟨h, n1, n, ok, by omega, rfl, h, n2, n, ok, by omega, rfl, _, _, rfl, rfl, _, rfl, ?_⟩
  have l1 := cnts_len h n1 n 0 0
  have l2 := cnts_len h n2 n 0 0
  unfold untr at q
  generalize cnts h n1 n 0 0 = as at l1 q ⊢
  generalize cnts h n2 n 0 0 = bs at l2 q ⊢
  refine loop_inv (fun i ρ M' => ∃ (s : U3) (o8 o9 o10 : Option D), untGo (i : Int) (as.drop i) (bs.drop i) s = untGo 0 as bs ⟨[], 0, 0⟩ ∧ s.found.length ≤ i ∧ ρ = [some h.d, some (cal n1), some (cal n2), some (.int (n : Int)), some (.obj p), some (.int s.one), some (.int s.other), some (.lst (zipD (as.map D.int) (bs.map D.int))), o8, o9, o10] ∧ M' = (p, .lst (s.found.map D.int)) :: M) _ ⟨⟨[], 0, 0⟩, none, none, none, rfl, Nat.le_refl _, rfl, rfl⟩ ?_ ?_
  · rintro i d ρ M' N hd ⟨s, o8, o9, o10, hg, hl, rfl, rfl⟩ hN
    have hi : i < n := by
      have := (List.getElem?_eq_some_iff.mp hd).1
      rw [enD_length, zipD_length, List.length_map, List.length_map, l1, l2] at this
      omega
    obtain ⟨x, hx, rfl⟩ := enD_get hd
    obtain ⟨a, b, h1, h2, rfl⟩ := zipD_get hx
    rw [List.getElem?_map] at h1 h2
    have k1 : i < as.length := by omega
    have k2 : i < bs.length := by omega
    rw [List.getElem?_eq_getElem k1] at h1
    rw [List.getElem?_eq_getElem k2] at h2
    cases h1; cases h2
    rw [List.drop_eq_getElem_cons k1, List.drop_eq_getElem_cons k2] at hg
    generalize as[i] = a at hg ⊢
    generalize bs[i] = b at hg ⊢
    have hg2 : untGo ((i + 1 : Nat) : Int) (as.drop (i + 1)) (bs.drop (i + 1)) (unt1 s i a b) = untGo 0 as bs ⟨[], 0, 0⟩ := by rw [← hg]; rfl
    rw [show 0 + i = i by omega]
    simp only [dVar, dC, dOp, dUn, dTst, dAnd, dOr, dNot, dAndV, dOrV, dNotV, dIfE, dNil, dCons, dTup, dLst, dNew, dCall, dB, dChain, dNext, dSeq, dDrop, dRet, dRetN, dIf, dAsg, gN, gSeq, gT, dPar2, dPar3, dAug, dRaise, dFor, dYes, dLc, dels, del, put, nth, startN, dFrz, dIx, dPart, dNoP, dSl, dApp, dPut, dM1, dFmt, dJs, dJoined, dIsi, dRg1, dRg2, dLsI, dTpI, dStI, dZip, dEnL, dLsRg1, dLsRg2, dNewK, dNewT, dOneT, dSetSort, dLsZip, dNewCan, oAdd, oSub, oMul, oDiv, oMod, oPow, oLt, oLe, oGt, oGe, oIs, oIsNot, oNeg, oIAdd, D.isN, bLen, bInt, bStr, bAbs, bBool, bList, bTuple, D.ty, D.isInt, D.isBool, D.isStr, D.isTup, D.isLst, List.map_cons, List.map_nil, List.length_cons, List.length_nil, List.replicate_succ, List.replicate_zero, List.cons_append, List.nil_append, Option.isSome_some, if_true, if_false, Bool.false_eq_true, reduceIte, Nat.reduceAdd, Nat.reduceSub, Bool.not_true, Bool.not_false, true_and, and_true]
    refine ⟨ok_int _, ok_int _, ?_⟩
    rw [eqv_int]
    have hl1 := unt1_len s i a b
    by_cases hab : a = b
    · rw [decide_eq_true hab]
      simp only [dVar, dC, dOp, dUn, dTst, dAnd, dOr, dNot, dAndV, dOrV, dNotV, dIfE, dNil, dCons, dTup, dLst, dNew, dCall, dB, dChain, dNext, dSeq, dDrop, dRet, dRetN, dIf, dAsg, gN, gSeq, gT, dPar2, dPar3, dAug, dRaise, dFor, dYes, dLc, dels, del, put, nth, startN, dFrz, dIx, dPart, dNoP, dSl, dApp, dPut, dM1, dFmt, dJs, dJoined, dIsi, dRg1, dRg2, dLsI, dTpI, dStI, dZip, dEnL, dLsRg1, dLsRg2, dNewK, dNewT, dOneT, dSetSort, dLsZip, dNewCan, oAdd, oSub, oMul, oDiv, oMod, oPow, oLt, oLe, oGt, oGe, oIs, oIsNot, oNeg, oIAdd, D.isN, bLen, bInt, bStr, bAbs, bBool, bList, bTuple, D.ty, D.isInt, D.isBool, D.isStr, D.isTup, D.isLst, List.map_cons, List.map_nil, List.length_cons, List.length_nil, List.replicate_succ, List.replicate_zero, List.cons_append, List.nil_append, Option.isSome_some, if_true, if_false, Bool.false_eq_true, reduceIte, Nat.reduceAdd, Nat.reduceSub, Bool.not_true, Bool.not_false, true_and, and_true]
      refine ⟨ok_int _, ok_int _, ?_⟩
      rw [eqv_int]
      by_cases hoo : s.one = s.other
      · rw [decide_eq_true hoo]
        simp only [dVar, dC, dOp, dUn, dTst, dAnd, dOr, dNot, dAndV, dOrV, dNotV, dIfE, dNil, dCons, dTup, dLst, dNew, dCall, dB, dChain, dNext, dSeq, dDrop, dRet, dRetN, dIf, dAsg, gN, gSeq, gT, dPar2, dPar3, dAug, dRaise, dFor, dYes, dLc, dels, del, put, nth, startN, dFrz, dIx, dPart, dNoP, dSl, dApp, dPut, dM1, dFmt, dJs, dJoined, dIsi, dRg1, dRg2, dLsI, dTpI, dStI, dZip, dEnL, dLsRg1, dLsRg2, dNewK, dNewT, dOneT, dSetSort, dLsZip, dNewCan, oAdd, oSub, oMul, oDiv, oMod, oPow, oLt, oLe, oGt, oGe, oIs, oIsNot, oNeg, oIAdd, D.isN, bLen, bInt, bStr, bAbs, bBool, bList, bTuple, D.ty, D.isInt, D.isBool, D.isStr, D.isTup, D.isLst, List.map_cons, List.map_nil, List.length_cons, List.length_nil, List.replicate_succ, List.replicate_zero, List.cons_append, List.nil_append, Option.isSome_some, if_true, if_false, Bool.false_eq_true, reduceIte, Nat.reduceAdd, Nat.reduceSub, Bool.not_true, Bool.not_false, true_and, and_true]
        refine hN _ _ ⟨unt1 s i a b, _, _, _, hg2, by omega, rfl, ?_⟩
        simp only [unt1]
        rw [if_neg (fun z => z.elim (fun z => z hab) fun z => z.1 hoo)]
      · rw [decide_eq_false hoo]
        simp only [dVar, dC, dOp, dUn, dTst, dAnd, dOr, dNot, dAndV, dOrV, dNotV, dIfE, dNil, dCons, dTup, dLst, dNew, dCall, dB, dChain, dNext, dSeq, dDrop, dRet, dRetN, dIf, dAsg, gN, gSeq, gT, dPar2, dPar3, dAug, dRaise, dFor, dYes, dLc, dels, del, put, nth, startN, dFrz, dIx, dPart, dNoP, dSl, dApp, dPut, dM1, dFmt, dJs, dJoined, dIsi, dRg1, dRg2, dLsI, dTpI, dStI, dZip, dEnL, dLsRg1, dLsRg2, dNewK, dNewT, dOneT, dSetSort, dLsZip, dNewCan, oAdd, oSub, oMul, oDiv, oMod, oPow, oLt, oLe, oGt, oGe, oIs, oIsNot, oNeg, oIAdd, D.isN, bLen, bInt, bStr, bAbs, bBool, bList, bTuple, D.ty, D.isInt, D.isBool, D.isStr, D.isTup, D.isLst, List.map_cons, List.map_nil, List.length_cons, List.length_nil, List.replicate_succ, List.replicate_zero, List.cons_append, List.nil_append, Option.isSome_some, if_true, if_false, Bool.false_eq_true, reduceIte, Nat.reduceAdd, Nat.reduceSub, Bool.not_true, Bool.not_false, true_and, and_true]
        by_cases ha : 0 < a
        · rw [decide_eq_true ha]
          simp only [dVar, dC, dOp, dUn, dTst, dAnd, dOr, dNot, dAndV, dOrV, dNotV, dIfE, dNil, dCons, dTup, dLst, dNew, dCall, dB, dChain, dNext, dSeq, dDrop, dRet, dRetN, dIf, dAsg, gN, gSeq, gT, dPar2, dPar3, dAug, dRaise, dFor, dYes, dLc, dels, del, put, nth, startN, dFrz, dIx, dPart, dNoP, dSl, dApp, dPut, dM1, dFmt, dJs, dJoined, dIsi, dRg1, dRg2, dLsI, dTpI, dStI, dZip, dEnL, dLsRg1, dLsRg2, dNewK, dNewT, dOneT, dSetSort, dLsZip, dNewCan, oAdd, oSub, oMul, oDiv, oMod, oPow, oLt, oLe, oGt, oGe, oIs, oIsNot, oNeg, oIAdd, D.isN, bLen, bInt, bStr, bAbs, bBool, bList, bTuple, D.ty, D.isInt, D.isBool, D.isStr, D.isTup, D.isLst, List.map_cons, List.map_nil, List.length_cons, List.length_nil, List.replicate_succ, List.replicate_zero, List.cons_append, List.nil_append, Option.isSome_some, if_true, if_false, Bool.false_eq_true, reduceIte, Nat.reduceAdd, Nat.reduceSub, Bool.not_true, Bool.not_false, true_and, and_true]
          refine ⟨p, _, rfl, mget_self, _, mget_self, by rw [List.length_map]; omega, ?_⟩
          rw [mset_cons_self]
          refine hN _ _ ⟨unt1 s i a b, _, _, _, hg2, by omega, rfl, ?_⟩
          simp only [unt1]
          rw [if_pos (Or.inr ⟨hoo, ha⟩), List.map_append]; rfl
        · rw [decide_eq_false ha]
          simp only [dVar, dC, dOp, dUn, dTst, dAnd, dOr, dNot, dAndV, dOrV, dNotV, dIfE, dNil, dCons, dTup, dLst, dNew, dCall, dB, dChain, dNext, dSeq, dDrop, dRet, dRetN, dIf, dAsg, gN, gSeq, gT, dPar2, dPar3, dAug, dRaise, dFor, dYes, dLc, dels, del, put, nth, startN, dFrz, dIx, dPart, dNoP, dSl, dApp, dPut, dM1, dFmt, dJs, dJoined, dIsi, dRg1, dRg2, dLsI, dTpI, dStI, dZip, dEnL, dLsRg1, dLsRg2, dNewK, dNewT, dOneT, dSetSort, dLsZip, dNewCan, oAdd, oSub, oMul, oDiv, oMod, oPow, oLt, oLe, oGt, oGe, oIs, oIsNot, oNeg, oIAdd, D.isN, bLen, bInt, bStr, bAbs, bBool, bList, bTuple, D.ty, D.isInt, D.isBool, D.isStr, D.isTup, D.isLst, List.map_cons, List.map_nil, List.length_cons, List.length_nil, List.replicate_succ, List.replicate_zero, List.cons_append, List.nil_append, Option.isSome_some, if_true, if_false, Bool.false_eq_true, reduceIte, Nat.reduceAdd, Nat.reduceSub, Bool.not_true, Bool.not_false, true_and, and_true]
          refine hN _ _ ⟨unt1 s i a b, _, _, _, hg2, by omega, rfl, ?_⟩
          simp only [unt1]
          rw [if_neg (fun z => z.elim (fun z => z hab) fun z => ha z.2)]
    · rw [decide_eq_false hab]
      simp only [dVar, dC, dOp, dUn, dTst, dAnd, dOr, dNot, dAndV, dOrV, dNotV, dIfE, dNil, dCons, dTup, dLst, dNew, dCall, dB, dChain, dNext, dSeq, dDrop, dRet, dRetN, dIf, dAsg, gN, gSeq, gT, dPar2, dPar3, dAug, dRaise, dFor, dYes, dLc, dels, del, put, nth, startN, dFrz, dIx, dPart, dNoP, dSl, dApp, dPut, dM1, dFmt, dJs, dJoined, dIsi, dRg1, dRg2, dLsI, dTpI, dStI, dZip, dEnL, dLsRg1, dLsRg2, dNewK, dNewT, dOneT, dSetSort, dLsZip, dNewCan, oAdd, oSub, oMul, oDiv, oMod, oPow, oLt, oLe, oGt, oGe, oIs, oIsNot, oNeg, oIAdd, D.isN, bLen, bInt, bStr, bAbs, bBool, bList, bTuple, D.ty, D.isInt, D.isBool, D.isStr, D.isTup, D.isLst, List.map_cons, List.map_nil, List.length_cons, List.length_nil, List.replicate_succ, List.replicate_zero, List.cons_append, List.nil_append, Option.isSome_some, if_true, if_false, Bool.false_eq_true, reduceIte, Nat.reduceAdd, Nat.reduceSub, Bool.not_true, Bool.not_false, true_and, and_true]
      refine ⟨p, _, rfl, mget_self, _, mget_self, by rw [List.length_map]; omega, ?_⟩
      rw [mset_cons_self]
      refine hN _ _ ⟨unt1 s i a b, _, _, _, hg2, by omega, rfl, ?_⟩
      simp only [unt1]
      rw [if_pos (Or.inl hab), List.map_append]; rfl
  · rintro ρ M' ⟨s, o8, o9, o10, hg, hl, rfl, rfl⟩
    rw [enD_length, zipD_length, List.length_map, List.length_map, l1, l2, Nat.min_self] at hg
    rw [← l1, List.drop_length] at hg
    simp only [dVar, dC, dOp, dUn, dTst, dAnd, dOr, dNot, dAndV, dOrV, dNotV, dIfE, dNil, dCons, dTup, dLst, dNew, dCall, dB, dChain, dNext, dSeq, dDrop, dRet, dRetN, dIf, dAsg, gN, gSeq, gT, dPar2, dPar3, dAug, dRaise, dFor, dYes, dLc, dels, del, put, nth, startN, dFrz, dIx, dPart, dNoP, dSl, dApp, dPut, dM1, dFmt, dJs, dJoined, dIsi, dRg1, dRg2, dLsI, dTpI, dStI, dZip, dEnL, dLsRg1, dLsRg2, dNewK, dNewT, dOneT, dSetSort, dLsZip, dNewCan, oAdd, oSub, oMul, oDiv, oMod, oPow, oLt, oLe, oGt, oGe, oIs, oIsNot, oNeg, oIAdd, D.isN, bLen, bInt, bStr, bAbs, bBool, bList, bTuple, D.ty, D.isInt, D.isBool, D.isStr, D.isTup, D.isLst, List.map_cons, List.map_nil, List.length_cons, List.length_nil, List.replicate_succ, List.replicate_zero, List.cons_append, List.nil_append, Option.isSome_some, if_true, if_false, Bool.false_eq_true, reduceIte, Nat.reduceAdd, Nat.reduceSub, Bool.not_true, Bool.not_false, true_and, and_true, mget_self, mdel_cons_self]
    have e : s = untGo 0 as bs ⟨[], 0, 0⟩ := by rw [← hg]; rfl
    rw [← e] at q
    exact fg_self q
/-! ### texts -/
theorem js_str {t : DTE} {ts : List DTE} {acc z : Str} {ρ : Env} {M : Mem} {Q : DQ} {R : DR} (h : ∀ k : DQ, k (.str z) M → t ρ M k R) (hz : z.length ≤ 100000) (ha : (acc ++ z).length ≤ 100000) (q : dJs ts (acc ++ z) ρ M Q R) : dJs (dFmt t :: ts) acc ρ M Q R :=
  h _ (.inl ⟨z, rfl, hz, z, rfl, ha, q⟩)
theorem js_int {t : DTE} {ts : List DTE} {acc : Str} {i : Int} {ρ : Env} {M : Mem} {Q : DQ} {R : DR} (h : ∀ k : DQ, k (.int i) M → t ρ M k R) (hz : i.natAbs.log2 < 1920) (ha : (acc ++ Str.ofString (toString i)).length ≤ 100000) (q : dJs ts (acc ++ Str.ofString (toString i)) ρ M Q R) : dJs (dFmt t :: ts) acc ρ M Q R :=
  h _ (.inr ⟨i, rfl, hz, _, rfl, ha, q⟩)
theorem js_c {ts : List DTE} {acc z : Str} {ρ : Env} {M : Mem} {Q : DQ} {R : DR} (ha : (acc ++ z).length ≤ 100000) (q : dJs ts (acc ++ z) ρ M Q R) : dJs (dC (.str z) :: ts) acc ρ M Q R := ⟨z, rfl, ha, q⟩
theorem len_app (a b : Str) : (a ++ b).length = a.length + b.length := by
  show (a.cps ++ b.cps).size = a.cps.size + b.cps.size
  rw [Array.size_append]
def fg1 (n : Nat) : Str := Str.ofString (toString (n : Int))
theorem fg1_eq {n : Nat} (h : n < 10) : fg1 n = fg n := by
  have e : n = 0 ∨ n = 1 ∨ n = 2 ∨ n = 3 ∨ n = 4 ∨ n = 5 ∨ n = 6 ∨ n = 7 ∨ n = 8 ∨ n = 9 := by omega
  rcases e with e | e | e | e | e | e | e | e | e | e <;> (subst e; decide +kernel)
def hTxt (h : Hs) : Str := Str.empty ++ wk h.work ++ Str.ofString "/" ++ wk h.run ++ Str.ofString "*" ++ fg1 h.speed
def S_text_of : DSp := fun ds M Q R => ∃ (h : Hs), h.Ok ∧ ds = [h.d] ∧ Q (.str (hTxt h)) M
def t_text_of : DTS := dRet (dJoined [dFmt (dOp dIx (dVar 0) (dC (.int 0))), dC (.str ("/" : Str)), dFmt (dOp dIx (dVar 0) (dC (.int 1))), dC (.str ("*" : Str)), dFmt (dOp dIx (dVar 0) (dC (.int 2)))])
theorem kp_text_of : Keeps S_text_of 1 t_text_of := by
  rintro ds M Q R ⟨h, ok, rfl, q⟩
  have h1 := ok.aw.len
  have h2 := ok.ar.len
  have h3 := ok.s3
  have l1 : (Str.empty : Str).length = 0 := by decide +kernel
  have l2 : (Str.ofString "/").length = 1 := by decide +kernel
  have l3 : (Str.ofString "*").length = 1 := by decide +kernel
  have l4 : (fg1 h.speed).length = 1 := by rw [fg1_eq (by omega)]; rfl
  have l5 := wk_length h.work
  have l6 := wk_length h.run
  simp only [t_text_of, dRet, dJoined]
  refine js_str (z := wk h.work) (fun k hk => ⟨_, _, rfl, ix0 .., hk⟩) (by omega) (by simp only [len_app]; omega) ?_
  refine js_c (by simp only [len_app]; omega) ?_
  refine js_str (z := wk h.run) (fun k hk => ⟨_, _, rfl, ix1 .., hk⟩) (by omega) (by simp only [len_app]; omega) ?_
  refine js_c (by simp only [len_app]; omega) ?_
  refine js_int (i := (h.speed : Int)) (fun k hk => ⟨_, _, rfl, ix2 .., hk⟩) ?_ (by
    show (_ ++ fg1 h.speed).length ≤ _
    simp only [len_app]; omega) ?_
  · have : h.speed = 1 ∨ h.speed = 2 ∨ h.speed = 3 := by have := ok.s1; omega
    rcases this with e | e | e <;> (rw [e]; decide)
  · exact fg_self q
def S_house_text : DSp := fun ds M Q R => ∃ (h : Hs), h.Ok ∧ ds = [h.d] ∧ Q (.str (hTxt h)) M
def t_house_text : DTS := dSeq (dDrop (dCall S_need_house (dCons (dVar 0) (dNil)))) (dRet (dCall S_text_of (dCons (dVar 0) (dNil))))
theorem kp_house_text : Keeps S_house_text 1 t_house_text := by
  rintro ds M Q R ⟨h, ok, rfl, q⟩
  simp only [t_house_text, dVar, dC, dOp, dUn, dTst, dAnd, dOr, dNot, dAndV, dOrV, dNotV, dIfE, dNil, dCons, dTup, dLst, dNew, dCall, dB, dChain, dNext, dSeq, dDrop, dRet, dRetN, dIf, dAsg, gN, gSeq, gT, dPar2, dPar3, dAug, dRaise, dFor, dYes, dLc, dels, del, put, nth, startN, dFrz, dIx, dPart, dNoP, dSl, dApp, dPut, dM1, dFmt, dJs, dJoined, dIsi, dRg1, dRg2, dLsI, dTpI, dStI, dZip, dEnL, dLsRg1, dLsRg2, dNewK, dNewT, dOneT, dSetSort, dLsZip, dNewCan, oAdd, oSub, oMul, oDiv, oMod, oPow, oLt, oLe, oGt, oGe, oIs, oIsNot, oNeg, oIAdd, D.isN, bLen, bInt, bStr, bAbs, bBool, bList, bTuple, D.ty, D.isInt, D.isBool, D.isStr, D.isTup, D.isLst, List.map_cons, List.map_nil, List.length_cons, List.length_nil, List.replicate_succ, List.replicate_zero, List.cons_append, List.nil_append, Option.isSome_some, if_true, if_false, Bool.false_eq_true, reduceIte, Nat.reduceAdd, Nat.reduceSub, Bool.not_true, Bool.not_false, true_and, and_true]
  exact needH ok ⟨h, ok, rfl, fg_self q⟩
def S_house_in : DSp := fun ds M Q R => ds = [.str ("0/01*1" : Str)] ∧ Q (Hs.d ⟨[0], [0, 1], 1⟩) M
def t_house_in : DTS := dSeq (dAsg (dM1 mSplit (dVar 0) (dC (.str ("/" : Str)))) (gN 1)) (dSeq (dAsg (dM1 mSplit (dOp dIx (dVar 1) (dUn oNeg (dC (.int 1)))) (dC (.str ("*" : Str)))) (gN 2)) (dSeq (dIf (dOr (dTst (dOp oNe (dB bLen (dCons (dVar 1) (dNil))) (dC (.int 2)))) (dOr (dTst (dOp oNe (dB bLen (dCons (dVar 2) (dNil))) (dC (.int 2)))) (dTst (dOp (qIn true) (dOp dIx (dVar 2) (dC (.int 1))) (dTup (dCons (dC (.str ("1" : Str))) (dCons (dC (.str ("2" : Str))) (dCons (dC (.str ("3" : Str))) (dNil))))))))) (dRet (dTup (dNil))) (dNext)) (dRet (dTup (dCons (dOp dIx (dVar 1) (dC (.int 0))) (dCons (dOp dIx (dVar 2) (dC (.int 0))) (dCons (dB bInt (dCons (dOp dIx (dVar 2) (dC (.int 1))) (dNil))) (dNil))))))))
theorem sp1 : Txt.split ("0/01*1" : Str) ("/" : Str) = [wk [0], ⟨#[48, 49, 42, 49]⟩] := by decide +kernel
theorem sp2 : Txt.split ⟨#[48, 49, 42, 49]⟩ ("*" : Str) = [wk [0, 1], wk [1]] := by decide +kernel
theorem kp_house_in : Keeps S_house_in 3 t_house_in := by
  rintro ds M Q R ⟨rfl, q⟩
  simp only [t_house_in, dSeq, dAsg, dM1, dVar, dC, mSplit, startN, nth, List.map_cons, List.map_nil, List.length_cons, List.length_nil, List.replicate_succ, List.replicate_zero, List.cons_append, List.nil_append, Nat.reduceAdd, Nat.reduceSub]
  refine ⟨_, rfl, _, rfl, by decide +kernel, by decide +kernel, ?_⟩
  rw [sp1]
  simp only [dVar, dC, dOp, dUn, dTst, dAnd, dOr, dNot, dAndV, dOrV, dNotV, dIfE, dNil, dCons, dTup, dLst, dNew, dCall, dB, dChain, dNext, dSeq, dDrop, dRet, dRetN, dIf, dAsg, gN, gSeq, gT, dPar2, dPar3, dAug, dRaise, dFor, dYes, dLc, dels, del, put, nth, startN, dFrz, dIx, dPart, dNoP, dSl, dApp, dPut, dM1, dFmt, dJs, dJoined, dIsi, dRg1, dRg2, dLsI, dTpI, dStI, dZip, dEnL, dLsRg1, dLsRg2, dNewK, dNewT, dOneT, dSetSort, dLsZip, dNewCan, oAdd, oSub, oMul, oDiv, oMod, oPow, oLt, oLe, oGt, oGe, oIs, oIsNot, oNeg, oIAdd, D.isN, bLen, bInt, bStr, bAbs, bBool, bList, bTuple, D.ty, D.isInt, D.isBool, D.isStr, D.isTup, D.isLst, List.map_cons, List.map_nil, List.length_cons, List.length_nil, List.replicate_succ, List.replicate_zero, List.cons_append, List.nil_append, Option.isSome_some, if_true, if_false, Bool.false_eq_true, reduceIte, Nat.reduceAdd, Nat.reduceSub, Bool.not_true, Bool.not_false, true_and, and_true, mSplit]
  refine ⟨_, _, rfl, rfl, _, rfl, _, rfl, by decide +kernel, by decide +kernel, ok_int _, ok_int _, ?_⟩
  rw [eqv_int, decide_eq_true (by decide)]
  simp only [dVar, dC, dOp, dUn, dTst, dAnd, dOr, dNot, dAndV, dOrV, dNotV, dIfE, dNil, dCons, dTup, dLst, dNew, dCall, dB, dChain, dNext, dSeq, dDrop, dRet, dRetN, dIf, dAsg, gN, gSeq, gT, dPar2, dPar3, dAug, dRaise, dFor, dYes, dLc, dels, del, put, nth, startN, dFrz, dIx, dPart, dNoP, dSl, dApp, dPut, dM1, dFmt, dJs, dJoined, dIsi, dRg1, dRg2, dLsI, dTpI, dStI, dZip, dEnL, dLsRg1, dLsRg2, dNewK, dNewT, dOneT, dSetSort, dLsZip, dNewCan, oAdd, oSub, oMul, oDiv, oMod, oPow, oLt, oLe, oGt, oGe, oIs, oIsNot, oNeg, oIAdd, D.isN, bLen, bInt, bStr, bAbs, bBool, bList, bTuple, D.ty, D.isInt, D.isBool, D.isStr, D.isTup, D.isLst, List.map_cons, List.map_nil, List.length_cons, List.length_nil, List.replicate_succ, List.replicate_zero, List.cons_append, List.nil_append, Option.isSome_some, if_true, if_false, Bool.false_eq_true, reduceIte, Nat.reduceAdd, Nat.reduceSub, Bool.not_true, Bool.not_false, true_and, and_true]
  rw [sp2]
  refine ⟨ok_int _, ok_int _, ?_⟩
  rw [eqv_int, decide_eq_true (by decide)]
  simp only [dVar, dC, dOp, dUn, dTst, dAnd, dOr, dNot, dAndV, dOrV, dNotV, dIfE, dNil, dCons, dTup, dLst, dNew, dCall, dB, dChain, dNext, dSeq, dDrop, dRet, dRetN, dIf, dAsg, gN, gSeq, gT, dPar2, dPar3, dAug, dRaise, dFor, dYes, dLc, dels, del, put, nth, startN, dFrz, dIx, dPart, dNoP, dSl, dApp, dPut, dM1, dFmt, dJs, dJoined, dIsi, dRg1, dRg2, dLsI, dTpI, dStI, dZip, dEnL, dLsRg1, dLsRg2, dNewK, dNewT, dOneT, dSetSort, dLsZip, dNewCan, oAdd, oSub, oMul, oDiv, oMod, oPow, oLt, oLe, oGt, oGe, oIs, oIsNot, oNeg, oIAdd, D.isN, bLen, bInt, bStr, bAbs, bBool, bList, bTuple, D.ty, D.isInt, D.isBool, D.isStr, D.isTup, D.isLst, List.map_cons, List.map_nil, List.length_cons, List.length_nil, List.replicate_succ, List.replicate_zero, List.cons_append, List.nil_append, Option.isSome_some, if_true, if_false, Bool.false_eq_true, reduceIte, Nat.reduceAdd, Nat.reduceSub, Bool.not_true, Bool.not_false, true_and, and_true]
  refine ⟨_, _, rfl, rfl, by decide, ⟨rfl, rfl⟩, ?_⟩
  have e : (D.str (wk [1])).any [.str ("1" : Str), .str ("2" : Str), .str ("3" : Str)] = true := by
    simp only [D.any, D.eqv, D.py]; decide +kernel
  rw [e]
  simp only [Bool.xor_true, dVar, dC, dOp, dUn, dTst, dAnd, dOr, dNot, dAndV, dOrV, dNotV, dIfE, dNil, dCons, dTup, dLst, dNew, dCall, dB, dChain, dNext, dSeq, dDrop, dRet, dRetN, dIf, dAsg, gN, gSeq, gT, dPar2, dPar3, dAug, dRaise, dFor, dYes, dLc, dels, del, put, nth, startN, dFrz, dIx, dPart, dNoP, dSl, dApp, dPut, dM1, dFmt, dJs, dJoined, dIsi, dRg1, dRg2, dLsI, dTpI, dStI, dZip, dEnL, dLsRg1, dLsRg2, dNewK, dNewT, dOneT, dSetSort, dLsZip, dNewCan, oAdd, oSub, oMul, oDiv, oMod, oPow, oLt, oLe, oGt, oGe, oIs, oIsNot, oNeg, oIAdd, D.isN, bLen, bInt, bStr, bAbs, bBool, bList, bTuple, D.ty, D.isInt, D.isBool, D.isStr, D.isTup, D.isLst, List.map_cons, List.map_nil, List.length_cons, List.length_nil, List.replicate_succ, List.replicate_zero, List.cons_append, List.nil_append, Option.isSome_some, if_true, if_false, Bool.false_eq_true, reduceIte, Nat.reduceAdd, Nat.reduceSub, Bool.not_true, Bool.not_false, true_and, and_true]
  refine ⟨_, _, rfl, rfl, _, _, rfl, rfl, _, _, rfl, rfl, _, int_fg (d := 1) (by decide), by decide +kernel, by decide, ?_⟩
  exact fg_self q
def S_read_house : DSp := fun ds M Q R => ds = [.str ("0/01*1" : Str)] ∧ Q (Hs.d ⟨[0], [0, 1], 1⟩) M
def t_read_house : DTS := dSeq (dAsg (dIfE (dTst (dIsi D.isStr (dVar 0))) (dCall S_house_in (dCons (dVar 0) (dNil))) (dTup (dNil))) (gN 1)) (dSeq (dIf (dNot (dTst (dCall S_is_house (dCons (dVar 1) (dNil))))) (dRaise "InvalidText") (dNext)) (dRet (dVar 1)))
theorem kp_read_house : Keeps S_read_house 2 t_read_house := by
  rintro ds M Q R ⟨rfl, q⟩
  have ok : (Hs.mk [0] [0, 1] 1).Ok := Hs.ok_of (by decide +kernel)
  simp only [t_read_house, dVar, dC, dOp, dUn, dTst, dAnd, dOr, dNot, dAndV, dOrV, dNotV, dIfE, dNil, dCons, dTup, dLst, dNew, dCall, dB, dChain, dNext, dSeq, dDrop, dRet, dRetN, dIf, dAsg, gN, gSeq, gT, dPar2, dPar3, dAug, dRaise, dFor, dYes, dLc, dels, del, put, nth, startN, dFrz, dIx, dPart, dNoP, dSl, dApp, dPut, dM1, dFmt, dJs, dJoined, dIsi, dRg1, dRg2, dLsI, dTpI, dStI, dZip, dEnL, dLsRg1, dLsRg2, dNewK, dNewT, dOneT, dSetSort, dLsZip, dNewCan, oAdd, oSub, oMul, oDiv, oMod, oPow, oLt, oLe, oGt, oGe, oIs, oIsNot, oNeg, oIAdd, D.isN, bLen, bInt, bStr, bAbs, bBool, bList, bTuple, D.ty, D.isInt, D.isBool, D.isStr, D.isTup, D.isLst, List.map_cons, List.map_nil, List.length_cons, List.length_nil, List.replicate_succ, List.replicate_zero, List.cons_append, List.nil_append, Option.isSome_some, if_true, if_false, Bool.false_eq_true, reduceIte, Nat.reduceAdd, Nat.reduceSub, Bool.not_true, Bool.not_false, true_and, and_true]
  refine ⟨rfl, _, ok.fine2, rfl, ?_⟩
  rw [ok.houseB]
  simp only [dVar, dC, dOp, dUn, dTst, dAnd, dOr, dNot, dAndV, dOrV, dNotV, dIfE, dNil, dCons, dTup, dLst, dNew, dCall, dB, dChain, dNext, dSeq, dDrop, dRet, dRetN, dIf, dAsg, gN, gSeq, gT, dPar2, dPar3, dAug, dRaise, dFor, dYes, dLc, dels, del, put, nth, startN, dFrz, dIx, dPart, dNoP, dSl, dApp, dPut, dM1, dFmt, dJs, dJoined, dIsi, dRg1, dRg2, dLsI, dTpI, dStI, dZip, dEnL, dLsRg1, dLsRg2, dNewK, dNewT, dOneT, dSetSort, dLsZip, dNewCan, oAdd, oSub, oMul, oDiv, oMod, oPow, oLt, oLe, oGt, oGe, oIs, oIsNot, oNeg, oIAdd, D.isN, bLen, bInt, bStr, bAbs, bBool, bList, bTuple, D.ty, D.isInt, D.isBool, D.isStr, D.isTup, D.isLst, List.map_cons, List.map_nil, List.length_cons, List.length_nil, List.replicate_succ, List.replicate_zero, List.cons_append, List.nil_append, Option.isSome_some, if_true, if_false, Bool.false_eq_true, reduceIte, Nat.reduceAdd, Nat.reduceSub, Bool.not_true, Bool.not_false, true_and, and_true]
  exact fg_self q
end Dl
namespace Dl
open PySem
/-! # the laws' draws -/
def S_law_lift : DSp := fun ds M Q R => ∃ (p : Nat) (w : Int), 0 < w ∧ w ≤ great ∧ mget M p = some .can ∧ ds = [.obj p, .int w] ∧ ∀ r, 0 ≤ r → r < w → Q (.int r) M
def t_law_lift : DTS := dSeq (dIf (dTst (dOp oGt (dOp dIx (dVar 0) (dC (.int 0))) (dC (.int 0)))) (dSeq (dAsg (dOp oMod (dB bInt (dCons (dOp dIx (dVar 0) (dC (.int 0))) (dNil))) (dVar 1)) (gN 2)) (dSeq (dPut (dVar 0) (dC (.int 0)) (dOp oDiv (dOp dIx (dVar 0) (dC (.int 0))) (dVar 1))) (dRet (dVar 2)))) (dNext)) (dSeq (dPut (dVar 0) (dC (.int 1)) (dOp oMod (dB bInt (dCons (dOp oAdd (dOp oMul (dOp dIx (dVar 0) (dC (.int 1))) (dC (.int 37993))) (dC (.int 307))) (dNil))) (dC (.int 2147483237)))) (dSeq (dAsg (dOp oMod (dB bInt (dCons (dOp oMul (dOp dIx (dVar 0) (dC (.int 1))) (dOp oAdd (dOp oDiv (dOp dIx (dVar 0) (dC (.int 1))) (dC (.int 9))) (dC (.int 67)))) (dNil))) (dC (.int 2147483179))) (gN 3)) (dRet (dOp oMod (dB bInt (dCons (dOp oDiv (dVar 3) (dC (.int 32))) (dNil))) (dVar 1)))))
theorem kp_law_lift : Keeps S_law_lift 4 t_law_lift := by
  rintro ds M Q R ⟨p, w, h0, h1, hm, rfl, q⟩
  simp only [t_law_lift, dVar, dC, dOp, dUn, dTst, dAnd, dOr, dNot, dAndV, dOrV, dNotV, dIfE, dNil, dCons, dTup, dLst, dNew, dCall, dB, dChain, dNext, dSeq, dDrop, dRet, dRetN, dIf, dAsg, gN, gSeq, gT, dPar2, dPar3, dAug, dRaise, dFor, dYes, dLc, dels, del, put, nth, startN, dFrz, dIx, dPart, dNoP, dSl, dApp, dPut, dM1, dFmt, dJs, dJoined, dIsi, dRg1, dRg2, dLsI, dTpI, dStI, dZip, dEnL, dLsRg1, dLsRg2, dNewK, dNewT, dOneT, dSetSort, dLsZip, dNewCan, oAdd, oSub, oMul, oDiv, oMod, oPow, oLt, oLe, oGt, oGe, oIs, oIsNot, oNeg, oIAdd, D.isN, bLen, bInt, bStr, bAbs, bBool, bList, bTuple, D.ty, D.isInt, D.isBool, D.isStr, D.isTup, D.isLst, List.map_cons, List.map_nil, List.length_cons, List.length_nil, List.replicate_succ, List.replicate_zero, List.cons_append, List.nil_append, Option.isSome_some, if_true, if_false, Bool.false_eq_true, reduceIte, Nat.reduceAdd, Nat.reduceSub, Bool.not_true, Bool.not_false, true_and, and_true, hm]
  refine .inl fun a ha => ?_
  by_cases hp : 0 < a
  · rw [decide_eq_true hp]
    simp only [dVar, dC, dOp, dUn, dTst, dAnd, dOr, dNot, dAndV, dOrV, dNotV, dIfE, dNil, dCons, dTup, dLst, dNew, dCall, dB, dChain, dNext, dSeq, dDrop, dRet, dRetN, dIf, dAsg, gN, gSeq, gT, dPar2, dPar3, dAug, dRaise, dFor, dYes, dLc, dels, del, put, nth, startN, dFrz, dIx, dPart, dNoP, dSl, dApp, dPut, dM1, dFmt, dJs, dJoined, dIsi, dRg1, dRg2, dLsI, dTpI, dStI, dZip, dEnL, dLsRg1, dLsRg2, dNewK, dNewT, dOneT, dSetSort, dLsZip, dNewCan, oAdd, oSub, oMul, oDiv, oMod, oPow, oLt, oLe, oGt, oGe, oIs, oIsNot, oNeg, oIAdd, D.isN, bLen, bInt, bStr, bAbs, bBool, bList, bTuple, D.ty, D.isInt, D.isBool, D.isStr, D.isTup, D.isLst, List.map_cons, List.map_nil, List.length_cons, List.length_nil, List.replicate_succ, List.replicate_zero, List.cons_append, List.nil_append, Option.isSome_some, if_true, if_false, Bool.false_eq_true, reduceIte, Nat.reduceAdd, Nat.reduceSub, Bool.not_true, Bool.not_false, true_and, and_true, hm, bInt]
    refine .inl fun a2 ha2 => ?_
    refine ⟨h0, .inl fun a3 ha3 => ⟨⟨h0, ?_⟩, ?_⟩⟩
    · exact Int.lt_of_le_of_lt h1 (by decide)
    · simp only [qPut, hm]
      refine ⟨_, rfl, Int.ediv_nonneg ha3 (by omega), .inl trivial, fg_self (q _ (Int.emod_nonneg _ (by omega)) (Int.emod_lt_of_pos _ h0))⟩
  · rw [decide_eq_false hp]
    simp only [dVar, dC, dOp, dUn, dTst, dAnd, dOr, dNot, dAndV, dOrV, dNotV, dIfE, dNil, dCons, dTup, dLst, dNew, dCall, dB, dChain, dNext, dSeq, dDrop, dRet, dRetN, dIf, dAsg, gN, gSeq, gT, dPar2, dPar3, dAug, dRaise, dFor, dYes, dLc, dels, del, put, nth, startN, dFrz, dIx, dPart, dNoP, dSl, dApp, dPut, dM1, dFmt, dJs, dJoined, dIsi, dRg1, dRg2, dLsI, dTpI, dStI, dZip, dEnL, dLsRg1, dLsRg2, dNewK, dNewT, dOneT, dSetSort, dLsZip, dNewCan, oAdd, oSub, oMul, oDiv, oMod, oPow, oLt, oLe, oGt, oGe, oIs, oIsNot, oNeg, oIAdd, D.isN, bLen, bInt, bStr, bAbs, bBool, bList, bTuple, D.ty, D.isInt, D.isBool, D.isStr, D.isTup, D.isLst, List.map_cons, List.map_nil, List.length_cons, List.length_nil, List.replicate_succ, List.replicate_zero, List.cons_append, List.nil_append, Option.isSome_some, if_true, if_false, Bool.false_eq_true, reduceIte, Nat.reduceAdd, Nat.reduceSub, Bool.not_true, Bool.not_false, true_and, and_true, hm]
    refine .inr fun b hb hb2 => ?_
    refine ⟨.inl (by unfold small64; omega), by decide, ?_⟩
    simp only [qPut, hm]
    refine ⟨_, rfl, by omega, .inr ⟨trivial, by omega⟩, ?_⟩
    refine .inr fun b2 hb hb2 => .inr fun b3 hb3 hb4 => ?_
    refine ⟨⟨by decide, by decide⟩, .inl (by unfold small64; omega), by decide, ⟨by decide, by decide⟩, h0, fg_self (q _ (Int.emod_nonneg _ (by omega)) (Int.emod_lt_of_pos _ h0))⟩
def S_law_can : DSp := fun ds M Q R => ∃ (ns : List Int) (k : Nat), k ≤ 1000 ∧ ds = [.scr ns, .int (k : Int)] ∧ ∀ p, p ∉ keys M → Q (.obj p) ((p, .can) :: M)
def t_law_can : DTS := dSeq (dAsg (dIfE (dTst (dOp oLt (dVar 1) (dB bLen (dCons (dVar 0) (dNil))))) (dB bAbs (dCons (dB bInt (dCons (dOp dIx (dVar 0) (dVar 1)) (dNil))) (dNil))) (dOp oAdd (dOp oMul (dC (.int 1103)) (dVar 1)) (dC (.int 163)))) (gN 2)) (dRet (dNewCan (dCons (dIfE (dTst (dOp oGe (dVar 2) (dOp oPow (dC (.int 10)) (dC (.int 18))))) (dVar 2) (dC (.int 0))) (dCons (dOp oAdd (dOp oMod (dB bInt (dCons (dOp oAdd (dOp oAdd (dOp oMul (dVar 2) (dC (.int 97))) (dOp oMul (dC (.int 2203)) (dVar 1))) (dC (.int 89))) (dNil))) (dC (.int 2147483237))) (dC (.int 1))) (dNil)))))
theorem kp_law_can : Keeps S_law_can 3 t_law_can := by
  rintro ds M Q R ⟨ns, k, hk, rfl, q⟩
  simp only [t_law_can, dVar, dC, dOp, dUn, dTst, dAnd, dOr, dNot, dAndV, dOrV, dNotV, dIfE, dNil, dCons, dTup, dLst, dNew, dCall, dB, dChain, dNext, dSeq, dDrop, dRet, dRetN, dIf, dAsg, gN, gSeq, gT, dPar2, dPar3, dAug, dRaise, dFor, dYes, dLc, dels, del, put, nth, startN, dFrz, dIx, dPart, dNoP, dSl, dApp, dPut, dM1, dFmt, dJs, dJoined, dIsi, dRg1, dRg2, dLsI, dTpI, dStI, dZip, dEnL, dLsRg1, dLsRg2, dNewK, dNewT, dOneT, dSetSort, dLsZip, dNewCan, oAdd, oSub, oMul, oDiv, oMod, oPow, oLt, oLe, oGt, oGe, oIs, oIsNot, oNeg, oIAdd, D.isN, bLen, bInt, bStr, bAbs, bBool, bList, bTuple, D.ty, D.isInt, D.isBool, D.isStr, D.isTup, D.isLst, List.map_cons, List.map_nil, List.length_cons, List.length_nil, List.replicate_succ, List.replicate_zero, List.cons_append, List.nil_append, Option.isSome_some, if_true, if_false, Bool.false_eq_true, reduceIte, Nat.reduceAdd, Nat.reduceSub, Bool.not_true, Bool.not_false, true_and, and_true]
  have fin : ∀ c : Int, 0 ≤ c → (0 ≤ (18 : Int) ∧ (18 : Int) ≤ 1000 ∧ -100 ≤ (10 : Int) ∧ (10 : Int) ≤ 100) ∧
      if decide ((10 : Int) ^ Int.toNat 18 ≤ c) = true then
        (small64 c ∨ small64 97) ∧ (small64 2203 ∨ small64 k) ∧ (0 : Int) < 2147483237 ∧ ∃ i j, [D.int c, D.int ((c * 97 + 2203 * k + 89) % 2147483237 + 1)] = [D.int i, D.int j] ∧ CanOk i j ∧ ∀ (p : Nat), ¬p ∈ keys M → Fg ((p, MO.can) :: M) (Q (D.obj p))
      else (small64 c ∨ small64 97) ∧ (small64 2203 ∨ small64 k) ∧ (0 : Int) < 2147483237 ∧ ∃ i j, [D.int 0, D.int ((c * 97 + 2203 * k + 89) % 2147483237 + 1)] = [D.int i, D.int j] ∧ CanOk i j ∧ ∀ (p : Nat), ¬p ∈ keys M → Fg ((p, MO.can) :: M) (Q (D.obj p)) := fun c hc => by
    refine ⟨by decide, ?_⟩
    have s1 : small64 97 := ⟨by decide, by decide⟩
    have s2 : small64 2203 := ⟨by decide, by decide⟩
    split
    · exact ⟨.inr s1, .inl s2, by decide, _, _, rfl, ⟨hc, by omega, by omega⟩, fun p hp => fg_self (q p hp)⟩
    · exact ⟨.inr s1, .inl s2, by decide, _, _, rfl, ⟨by decide, by omega, by omega⟩, fun p hp => fg_self (q p hp)⟩
  have s3 : small64 1103 := ⟨by decide, by decide⟩
  split
  · rename_i h
    have hl : k < ns.length := by have := of_decide_eq_true h; omega
    have hat : L2.atI ns (k : Int) = some ns[k] := by
      unfold L2.atI L2.ixN
      rw [if_pos (by omega), if_pos (by omega)]
      show ns[((k : Int)).toNat]? = _
      rw [Int.toNat_natCast, List.getElem?_eq_getElem hl]
    exact ⟨_, _, rfl, hat, fin _ (by split <;> omega)⟩
  · exact ⟨.inl s3, fin _ (by omega)⟩
def S_law_week : DSp := fun ds M Q R => ∃ (w : Nat), (w : Int) ≤ 10 ^ 28 ∧ ds = [.int (w : Int)] ∧ Q (.lst (List.replicate 10 (D.bl true))) M
def S_law_kinds : DSp := fun ds M Q R => ds = [] ∧ Q (.lst (List.replicate 9 (.bl true))) M
def S_law_told : DSp := fun ds M Q R => ds = [] ∧ Q (.lst (List.replicate 5 (.bl true))) M
def S_law : DSp := fun ds M Q R => ∃ (ns : List Int), ds = [.scr ns] ∧ Q (.bl true) M
def t_law : DTS := dSeq (dFor (dRg1 (dB bMax (dCons (dC (.int 3)) (dCons (dB bMin (dCons (dC (.int 7)) (dCons (dB bLen (dCons (dVar 0) (dNil))) (dNil)))) (dNil))))) (gN 1) (dSeq (dAsg (dCall S_law_can (dCons (dVar 0) (dCons (dVar 1) (dNil)))) (gN 2)) (dFor (dTpI (dTup (dCons (dC (.int 0)) (dCons (dOp oAdd (dC (.int 1)) (dCall S_law_lift (dCons (dVar 2) (dCons (dC (.int 100)) (dNil))))) (dCons (dCall S_law_lift (dCons (dVar 2) (dCons (dOp oPow (dC (.int 10)) (dC (.int 28))) (dNil)))) (dNil)))))) (gN 3) (dIf (dTst (dOp (qIn false) (dC (.bl false)) (dCall S_law_week (dCons (dVar 3) (dNil))))) (dRet (dC (.bl false))) (dNext))))) (dRet (dAndV (dOp (qIn true) (dC (.bl false)) (dCall S_law_kinds dNil)) (dOp (qIn true) (dC (.bl false)) (dCall S_law_told dNil))))
theorem eqv_ft : (D.bl true).eqv (.bl false) = false := by
  simp only [D.eqv, D.py]; decide
theorem any_ft : ∀ n, (D.bl false).any (List.replicate n (.bl true)) = false
  | 0 => rfl
  | n + 1 => by rw [List.replicate_succ, D.any, any_ft n, eqv_ft]; rfl
theorem flat_tt (n : Nat) : (List.replicate n (D.bl true)).all D.flat = true := by
  rw [List.all_eq_true]; intro d hd; rw [List.eq_of_mem_replicate hd]; rfl
theorem in_rep (n : Nat) (k : Bool) (M : Mem) (Q : DQ) (q : Q (.bl k) M) : qIn k (.bl false) (.lst (List.replicate n (D.bl true))) M Q := by
  refine ⟨.inl ⟨rfl, flat_tt n⟩, ?_⟩
  rw [any_ft, Bool.xor_false]; exact q
theorem kp_law : Keeps S_law 4 t_law := by
  rintro ds M Q R ⟨ns, rfl, q⟩
  simp only [t_law, dVar, dC, dOp, dUn, dTst, dAnd, dOr, dNot, dAndV, dOrV, dNotV, dIfE, dNil, dCons, dTup, dLst, dNew, dCall, dB, dChain, dNext, dSeq, dDrop, dRet, dRetN, dIf, dAsg, gN, gSeq, gT, dPar2, dPar3, dAug, dRaise, dFor, dYes, dLc, dels, del, put, nth, startN, dFrz, dIx, dPart, dNoP, dSl, dApp, dPut, dM1, dFmt, dJs, dJoined, dIsi, dRg1, dRg2, dLsI, dTpI, dStI, dZip, dEnL, dLsRg1, dLsRg2, dNewK, dNewT, dOneT, dSetSort, dLsZip, dNewCan, oAdd, oSub, oMul, oDiv, oMod, oPow, oLt, oLe, oGt, oGe, oIs, oIsNot, oNeg, oIAdd, D.isN, bLen, bInt, bStr, bAbs, bBool, bList, bTuple, D.ty, D.isInt, D.isBool, D.isStr, D.isTup, D.isLst, List.map_cons, List.map_nil, List.length_cons, List.length_nil, List.replicate_succ, List.replicate_zero, List.cons_append, List.nil_append, Option.isSome_some, if_true, if_false, Bool.false_eq_true, reduceIte, Nat.reduceAdd, Nat.reduceSub, Bool.not_true, Bool.not_false, true_and, and_true, bMax, bMin]
  refine ⟨_, rfl, ?_⟩
  refine loop_inv (fun i ρ M' => Fg M' (fun M2 => M2 = M) ∧ ∃ o1 o2 o3, ρ = [some (.scr ns), o1, o2, o3]) _ ⟨⟨M, .refl M, rfl⟩, none, none, none, rfl⟩ ?_ ?_
  · rintro i d ρ M' N hd ⟨hM, o1, o2, o3, rfl⟩ hN
    have hi := (List.getElem?_eq_some_iff.mp hd).1
    rw [rgD_length] at hi
    rw [rgD_get hi] at hd
    cases hd
    rw [show (0 : Int) + (i : Nat) = (i : Int) by omega]
    simp only [dVar, dC, dOp, dUn, dTst, dAnd, dOr, dNot, dAndV, dOrV, dNotV, dIfE, dNil, dCons, dTup, dLst, dNew, dCall, dB, dChain, dNext, dSeq, dDrop, dRet, dRetN, dIf, dAsg, gN, gSeq, gT, dPar2, dPar3, dAug, dRaise, dFor, dYes, dLc, dels, del, put, nth, startN, dFrz, dIx, dPart, dNoP, dSl, dApp, dPut, dM1, dFmt, dJs, dJoined, dIsi, dRg1, dRg2, dLsI, dTpI, dStI, dZip, dEnL, dLsRg1, dLsRg2, dNewK, dNewT, dOneT, dSetSort, dLsZip, dNewCan, oAdd, oSub, oMul, oDiv, oMod, oPow, oLt, oLe, oGt, oGe, oIs, oIsNot, oNeg, oIAdd, D.isN, bLen, bInt, bStr, bAbs, bBool, bList, bTuple, D.ty, D.isInt, D.isBool, D.isStr, D.isTup, D.isLst, List.map_cons, List.map_nil, List.length_cons, List.length_nil, List.replicate_succ, List.replicate_zero, List.cons_append, List.nil_append, Option.isSome_some, if_true, if_false, Bool.false_eq_true, reduceIte, Nat.reduceAdd, Nat.reduceSub, Bool.not_true, Bool.not_false, true_and, and_true]
    refine ⟨ns, i, ?_, rfl, fun p hp => ?_⟩
    · split at hi <;> split at hi <;> omega
    · refine ⟨p, 100, by decide, by decide, mget_self, rfl, fun r hr0 hr1 => ?_⟩
      simp only [dVar, dC, dOp, dUn, dTst, dAnd, dOr, dNot, dAndV, dOrV, dNotV, dIfE, dNil, dCons, dTup, dLst, dNew, dCall, dB, dChain, dNext, dSeq, dDrop, dRet, dRetN, dIf, dAsg, gN, gSeq, gT, dPar2, dPar3, dAug, dRaise, dFor, dYes, dLc, dels, del, put, nth, startN, dFrz, dIx, dPart, dNoP, dSl, dApp, dPut, dM1, dFmt, dJs, dJoined, dIsi, dRg1, dRg2, dLsI, dTpI, dStI, dZip, dEnL, dLsRg1, dLsRg2, dNewK, dNewT, dOneT, dSetSort, dLsZip, dNewCan, oAdd, oSub, oMul, oDiv, oMod, oPow, oLt, oLe, oGt, oGe, oIs, oIsNot, oNeg, oIAdd, D.isN, bLen, bInt, bStr, bAbs, bBool, bList, bTuple, D.ty, D.isInt, D.isBool, D.isStr, D.isTup, D.isLst, List.map_cons, List.map_nil, List.length_cons, List.length_nil, List.replicate_succ, List.replicate_zero, List.cons_append, List.nil_append, Option.isSome_some, if_true, if_false, Bool.false_eq_true, reduceIte, Nat.reduceAdd, Nat.reduceSub, Bool.not_true, Bool.not_false, true_and, and_true]
      refine ⟨by decide, p, _, by decide, by decide, mget_self, rfl, fun r2 hs0 hs1 => ⟨by decide, _, rfl, ?_⟩⟩
      have hc : Fg ((p, MO.can) :: M') (fun M2 => M2 = M) := fg_drop hM
      generalize ((p, MO.can) :: M' : Mem) = M3 at hc ⊢
      refine loop_inv (fun j ρ M' => M' = M3 ∧ ∃ o3, ρ = [some (.scr ns), some (.int (i : Int)), some (.obj p), o3]) _ ⟨rfl, _, rfl⟩ ?_ ?_
      · rintro j d ρ M' N2 hd ⟨rfl, o3, rfl⟩ hN2
        have hw : ∃ w : Nat, (w : Int) ≤ 10 ^ 28 ∧ d = .int (w : Int) := by
          have hj : j < 3 := (List.getElem?_eq_some_iff.mp hd).1
          have : j = 0 ∨ j = 1 ∨ j = 2 := by omega
          rcases this with z | z | z
          · subst z; cases hd; exact ⟨0, by decide, rfl⟩
          · subst z; cases hd
            exact ⟨(1 + r).toNat, by have : (10 : Int) ^ 28 = 10000000000000000000000000000 := by decide
                                     omega, by rw [Int.toNat_of_nonneg (by omega)]⟩
          · subst z; cases hd
            have e : (10 : Int) ^ Int.toNat 28 = 10 ^ 28 := by decide
            exact ⟨r2.toNat, by rw [e] at hs1; omega, by rw [Int.toNat_of_nonneg hs0]⟩
        obtain ⟨w, hw1, rfl⟩ := hw
        simp only [dVar, dC, dOp, dUn, dTst, dAnd, dOr, dNot, dAndV, dOrV, dNotV, dIfE, dNil, dCons, dTup, dLst, dNew, dCall, dB, dChain, dNext, dSeq, dDrop, dRet, dRetN, dIf, dAsg, gN, gSeq, gT, dPar2, dPar3, dAug, dRaise, dFor, dYes, dLc, dels, del, put, nth, startN, dFrz, dIx, dPart, dNoP, dSl, dApp, dPut, dM1, dFmt, dJs, dJoined, dIsi, dRg1, dRg2, dLsI, dTpI, dStI, dZip, dEnL, dLsRg1, dLsRg2, dNewK, dNewT, dOneT, dSetSort, dLsZip, dNewCan, oAdd, oSub, oMul, oDiv, oMod, oPow, oLt, oLe, oGt, oGe, oIs, oIsNot, oNeg, oIAdd, D.isN, bLen, bInt, bStr, bAbs, bBool, bList, bTuple, D.ty, D.isInt, D.isBool, D.isStr, D.isTup, D.isLst, List.map_cons, List.map_nil, List.length_cons, List.length_nil, List.replicate_succ, List.replicate_zero, List.cons_append, List.nil_append, Option.isSome_some, if_true, if_false, Bool.false_eq_true, reduceIte, Nat.reduceAdd, Nat.reduceSub, Bool.not_true, Bool.not_false, true_and, and_true]
        refine ⟨w, hw1, rfl, in_rep _ _ _ _ ?_⟩
        simp only [dVar, dC, dOp, dUn, dTst, dAnd, dOr, dNot, dAndV, dOrV, dNotV, dIfE, dNil, dCons, dTup, dLst, dNew, dCall, dB, dChain, dNext, dSeq, dDrop, dRet, dRetN, dIf, dAsg, gN, gSeq, gT, dPar2, dPar3, dAug, dRaise, dFor, dYes, dLc, dels, del, put, nth, startN, dFrz, dIx, dPart, dNoP, dSl, dApp, dPut, dM1, dFmt, dJs, dJoined, dIsi, dRg1, dRg2, dLsI, dTpI, dStI, dZip, dEnL, dLsRg1, dLsRg2, dNewK, dNewT, dOneT, dSetSort, dLsZip, dNewCan, oAdd, oSub, oMul, oDiv, oMod, oPow, oLt, oLe, oGt, oGe, oIs, oIsNot, oNeg, oIAdd, D.isN, bLen, bInt, bStr, bAbs, bBool, bList, bTuple, D.ty, D.isInt, D.isBool, D.isStr, D.isTup, D.isLst, List.map_cons, List.map_nil, List.length_cons, List.length_nil, List.replicate_succ, List.replicate_zero, List.cons_append, List.nil_append, Option.isSome_some, if_true, if_false, Bool.false_eq_true, reduceIte, Nat.reduceAdd, Nat.reduceSub, Bool.not_true, Bool.not_false, true_and, and_true]
        exact hN2 _ _ ⟨rfl, _, rfl⟩
      · rintro ρ M' ⟨rfl, o3, rfl⟩
        exact hN _ _ ⟨hc, _, _, _, rfl⟩
  · rintro ρ M' ⟨⟨M2, sb, rfl⟩, o1, o2, o3, rfl⟩
    simp only [dVar, dC, dOp, dUn, dTst, dAnd, dOr, dNot, dAndV, dOrV, dNotV, dIfE, dNil, dCons, dTup, dLst, dNew, dCall, dB, dChain, dNext, dSeq, dDrop, dRet, dRetN, dIf, dAsg, gN, gSeq, gT, dPar2, dPar3, dAug, dRaise, dFor, dYes, dLc, dels, del, put, nth, startN, dFrz, dIx, dPart, dNoP, dSl, dApp, dPut, dM1, dFmt, dJs, dJoined, dIsi, dRg1, dRg2, dLsI, dTpI, dStI, dZip, dEnL, dLsRg1, dLsRg2, dNewK, dNewT, dOneT, dSetSort, dLsZip, dNewCan, oAdd, oSub, oMul, oDiv, oMod, oPow, oLt, oLe, oGt, oGe, oIs, oIsNot, oNeg, oIAdd, D.isN, bLen, bInt, bStr, bAbs, bBool, bList, bTuple, D.ty, D.isInt, D.isBool, D.isStr, D.isTup, D.isLst, List.map_cons, List.map_nil, List.length_cons, List.length_nil, List.replicate_succ, List.replicate_zero, List.cons_append, List.nil_append, Option.isSome_some, if_true, if_false, Bool.false_eq_true, reduceIte, Nat.reduceAdd, Nat.reduceSub, Bool.not_true, Bool.not_false, true_and, and_true]
    refine ⟨rfl, in_rep _ _ _ _ ?_⟩
    simp only [dVar, dC, dOp, dUn, dTst, dAnd, dOr, dNot, dAndV, dOrV, dNotV, dIfE, dNil, dCons, dTup, dLst, dNew, dCall, dB, dChain, dNext, dSeq, dDrop, dRet, dRetN, dIf, dAsg, gN, gSeq, gT, dPar2, dPar3, dAug, dRaise, dFor, dYes, dLc, dels, del, put, nth, startN, dFrz, dIx, dPart, dNoP, dSl, dApp, dPut, dM1, dFmt, dJs, dJoined, dIsi, dRg1, dRg2, dLsI, dTpI, dStI, dZip, dEnL, dLsRg1, dLsRg2, dNewK, dNewT, dOneT, dSetSort, dLsZip, dNewCan, oAdd, oSub, oMul, oDiv, oMod, oPow, oLt, oLe, oGt, oGe, oIs, oIsNot, oNeg, oIAdd, D.isN, bLen, bInt, bStr, bAbs, bBool, bList, bTuple, D.ty, D.isInt, D.isBool, D.isStr, D.isTup, D.isLst, List.map_cons, List.map_nil, List.length_cons, List.length_nil, List.replicate_succ, List.replicate_zero, List.cons_append, List.nil_append, Option.isSome_some, if_true, if_false, Bool.false_eq_true, reduceIte, Nat.reduceAdd, Nat.reduceSub, Bool.not_true, Bool.not_false, true_and, and_true]
    refine ⟨rfl, in_rep _ _ _ _ ?_⟩
    exact ⟨_, sb, q⟩
end Dl
namespace Dl
open PySem
/-! # known houses: closed parts -/
instance (d : D) : Decidable d.ok := by unfold D.ok; exact inferInstance
theorem x0 : ("0" : Str) = wk [0] := by decide +kernel
theorem x01 : ("01" : Str) = wk [0, 1] := by decide +kernel
theorem x5 : ("5" : Str) = wk [5] := by decide +kernel
theorem xe : ("" : Str) = wk [] := by decide +kernel
theorem x01234 : ("01234" : Str) = wk [0, 1, 2, 3, 4] := by decide +kernel
theorem x012345 : ("012345" : Str) = wk [0, 1, 2, 3, 4, 5] := by decide +kernel
theorem x0123456 : ("0123456" : Str) = wk [0, 1, 2, 3, 4, 5, 6] := by decide +kernel
theorem x12345 : ("12345" : Str) = wk [1, 2, 3, 4, 5] := by decide +kernel
theorem x123456 : ("123456" : Str) = wk [1, 2, 3, 4, 5, 6] := by decide +kernel
theorem x01245 : ("01245" : Str) = wk [0, 1, 2, 4, 5] := by decide +kernel
def hWeek : Hs := ⟨[0, 1, 2, 3, 4], [0, 1, 2, 3, 4, 5], 1⟩
def hRing : Hs := ⟨[0], [0, 1], 1⟩
def hPair : Hs := ⟨[0, 1, 2, 3, 4, 5, 6], [0, 1, 2, 4, 5], 2⟩
theorem okWeek : hWeek.Ok := Hs.ok_of (by decide +kernel)
theorem okRing : hRing.Ok := Hs.ok_of (by decide +kernel)
theorem okPair : hPair.Ok := Hs.ok_of (by decide +kernel)
theorem calok {ns : List Int} (h : (decide (ns.length ≤ 20) && ascI ns && ns.all (fun i => decide (0 ≤ i) && decide (i ≤ great))) = true) : CalOk ns := by
  simp only [Bool.and_eq_true, decide_eq_true_eq] at h
  exact ⟨h.1.1, h.1.2, h.2⟩
/-- two values that are computed are alike -/
theorem o_eq {x y : D} {M : Mem} {Q : DQ} (h1 : x.ok) (h2 : y.ok) (h : x.eqv y = true) (q : Q (.bl true) M) : oEq x y M Q := ⟨h1, h2, by rw [h]; exact q⟩
def tDue : D := .lst [rsD ([0, 1, 2, 3, 4, 5], 1), rsD ([0, 1, 2, 3, 4, 5, 6], 1), rsD ([1, 2, 3, 4, 5], 1), rsD ([1, 2, 3, 4, 5, 6], 1)]
theorem f1 : housesFor [0, 1, 2, 3, 4] [0] ("0111110" : Str).cps.toList = [([0, 1, 2, 3, 4, 5], 1), ([0, 1, 2, 3, 4, 5, 6], 1), ([1, 2, 3, 4, 5], 1), ([1, 2, 3, 4, 5, 6], 1)] := by decide +kernel
theorem f2 : (housesFor [0] [0] ("0.1" : Str).cps.toList).length = 96 := by decide +kernel
theorem f3 : untr hWeek [] [0] 7 = [0, 1, 2, 3, 4, 5] := by decide +kernel
theorem f4 : untr hRing [] [3] 400 = [] := by decide +kernel
theorem f5 : untr hWeek [0] [0, 1] 14 = [1, 2, 3, 4, 5, 7, 8, 9, 10, 11, 12] := by decide +kernel
theorem f6 : hTxt hWeek = ("01234/012345*1" : Str) := by decide +kernel
theorem s1 : (D.str ("0111110" : Str)).seenB = true := by decide +kernel
theorem s2 : (D.str ("0.1" : Str)).seenB = true := by decide +kernel
theorem a1 : Asc [0, 1, 2, 3, 4] := by decide
theorem a2 : Asc [0] := by decide
/-! step by step -/
def Tr (e : DTE) (ρ : Env) (M : Mem) (R : DR) : Prop := ∀ k : DQ, k (.bl true) M → e ρ M k R
theorem tr_and {a b : DTE} {ρ : Env} {M : Mem} {R : DR} (ha : Tr a ρ M R) (hb : Tr b ρ M R) : Tr (dAndV a b) ρ M R := fun k hk => ha _ (hb _ hk)
theorem st_any {t u : DTS} {E : DEnds} {ρ : Env} {M : Mem} {R : DR} (ρ' : Env) (M' : Mem) (ht : ∀ E' : DEnds, E'.nx ρ' M' → t E' ρ M R) (h : u E ρ' M' R) : dSeq t u E ρ M R := ht _ h
theorem st_app {u : DTS} {e : DTE} {E : DEnds} {ρ : Env} {M : Mem} {R : DR} {i p : Nat} {ds : List D} (hv : nth ρ i = some (.obj p)) (he : Tr e ρ ((p, .lst ds) :: M) R) (hl : ds.length < 100000) (h : u E ρ ((p, .lst (ds ++ [.bl true])) :: M) R) : dSeq (dDrop (dApp (dVar i) e)) u E ρ ((p, .lst ds) :: M) R := by
  unfold dSeq dDrop dApp dVar
  rw [hv]
  dsimp only
  refine ⟨p, ds, rfl, mget_self, he _ ⟨ds, mget_self, hl, ?_⟩⟩
  rw [mset_cons_self]
  exact h
theorem st_new2 {u : DTS} {e1 e2 : DTE} {E : DEnds} {ρ : Env} {M : Mem} {R : DR} {i : Nat} (h1 : Tr e1 ρ M R) (h2 : Tr e2 ρ M R) (h : ∀ p, p ∉ keys M → u E (put ρ i (.obj p)) ((p, .lst [.bl true, .bl true]) :: M) R) : dSeq (dAsg (dNew (dCons e1 (dCons e2 dNil))) (gN i)) u E ρ M R :=
  h1 _ (h2 _ ⟨by show 2 ≤ 100000; decide, fun p hp => h p hp⟩)
theorem st_new3 {u : DTS} {e1 e2 e3 : DTE} {E : DEnds} {ρ : Env} {M : Mem} {R : DR} {i : Nat} (h1 : Tr e1 ρ M R) (h2 : Tr e2 ρ M R) (h3 : Tr e3 ρ M R) (h : ∀ p, p ∉ keys M → u E (put ρ i (.obj p)) ((p, .lst [.bl true, .bl true, .bl true]) :: M) R) : dSeq (dAsg (dNew (dCons e1 (dCons e2 (dCons e3 dNil)))) (gN i)) u E ρ M R :=
  h1 _ (h2 _ (h3 _ ⟨by show 3 ≤ 100000; decide, fun p hp => h p hp⟩))
theorem st_end {e : DTE} {E : DEnds} {ρ : Env} {M : Mem} {R : DR} {i p : Nat} {ds : List D} (hv : nth ρ i = some (.obj p)) (he : Tr e ρ M R) (hl : ds.length < 1000) (h : E.rt (.lst (ds ++ [.bl true])) M) : dRet (dOp oAdd (dFrz (dVar i)) (dLst (dCons e dNil))) E ρ ((p, .lst ds) :: M) R := by
  unfold dRet dOp dFrz dVar
  rw [hv]
  dsimp only
  rw [mget_self]
  dsimp only
  rw [mdel_cons_self]
  exact he _ ⟨by show 1 ≤ 100000; decide, by show ds.length + 1 ≤ _; omega, h⟩
theorem tr_eq {a b : DTE} {ρ : Env} {M : Mem} {R : DR} {x y : D} (ha : ∀ k : DQ, k x M → a ρ M k R) (hb : ∀ k : DQ, k y M → b ρ M k R) (hx : x.ok) (hy : y.ok) (h : x.eqv y = true) : Tr (dOp oEq a b) ρ M R := fun k hk => ha _ (hb _ (o_eq hx hy h hk))
def t_law_told : DTS := dSeq (dAsg (dTup (dCons (dTup (dCons (dC (.str ("01234" : Str))) (dCons (dC (.str ("012345" : Str))) (dCons (dC (.int 1)) (dNil))))) (dCons (dTup (dCons (dC (.str ("0" : Str))) (dCons (dC (.str ("01" : Str))) (dCons (dC (.int 1)) (dNil))))) (dNil)))) (gT [gN 0, gN 1])) (dSeq (dAsg (dLst (dCons (dTup (dCons (dC (.str ("012345" : Str))) (dCons (dC (.int 1)) (dNil)))) (dCons (dTup (dCons (dC (.str ("0123456" : Str))) (dCons (dC (.int 1)) (dNil)))) (dCons (dTup (dCons (dC (.str ("12345" : Str))) (dCons (dC (.int 1)) (dNil)))) (dCons (dTup (dCons (dC (.str ("123456" : Str))) (dCons (dC (.int 1)) (dNil)))) (dNil)))))) (gN 2)) (dSeq (dAsg (dNew (dCons (dOp oEq (dCall S_houses_for (dCons (dC (.str ("01234" : Str))) (dCons (dTup (dCons (dC (.int 0)) (dNil))) (dCons (dC (.str ("0111110" : Str))) (dNil))))) (dVar 2)) (dCons (dOp oEq (dB bLen (dCons (dCall S_houses_for (dCons (dC (.str ("0" : Str))) (dCons (dTup (dCons (dC (.int 0)) (dNil))) (dCons (dC (.str ("0.1" : Str))) (dNil))))) (dNil))) (dC (.int 96))) (dNil)))) (gN 3)) (dSeq (dDrop (dApp (dVar 3) (dAndV (dOp oEq (dCall S_untrue (dCons (dVar 0) (dCons (dTup (dNil)) (dCons (dTup (dCons (dC (.int 0)) (dNil))) (dCons (dC (.int 7)) (dNil)))))) (dLst (dCons (dC (.int 0)) (dCons (dC (.int 1)) (dCons (dC (.int 2)) (dCons (dC (.int 3)) (dCons (dC (.int 4)) (dCons (dC (.int 5)) (dNil))))))))) (dOp oEq (dCall S_untrue (dCons (dVar 1) (dCons (dTup (dNil)) (dCons (dTup (dCons (dC (.int 3)) (dNil))) (dCons (dC (.int 400)) (dNil)))))) (dLst (dNil)))))) (dSeq (dDrop (dApp (dVar 3) (dOp oEq (dCall S_untrue (dCons (dVar 0) (dCons (dTup (dCons (dC (.int 0)) (dNil))) (dCons (dTup (dCons (dC (.int 0)) (dCons (dC (.int 1)) (dNil)))) (dCons (dC (.int 14)) (dNil)))))) (dLst (dCons (dC (.int 1)) (dCons (dC (.int 2)) (dCons (dC (.int 3)) (dCons (dC (.int 4)) (dCons (dC (.int 5)) (dCons (dC (.int 7)) (dCons (dC (.int 8)) (dCons (dC (.int 9)) (dCons (dC (.int 10)) (dCons (dC (.int 11)) (dCons (dC (.int 12)) (dNil)))))))))))))))) (dRet (dOp oAdd (dFrz (dVar 3)) (dLst (dCons (dAndV (dOp oEq (dCall S_house_text (dCons (dVar 0) (dNil))) (dC (.str ("01234/012345*1" : Str)))) (dOp oEq (dCall S_read_house (dCons (dC (.str ("0/01*1" : Str))) (dNil))) (dVar 1))) (dNil)))))))))
theorem kp_law_told : Keeps S_law_told 4 t_law_told := by
  rintro ds M Q R ⟨rfl, q⟩
  simp only [t_law_told, x0, x01, x01234, x012345, x0123456, x12345, x123456, startN, List.length_nil, Nat.reduceSub, List.map_nil, List.replicate_succ, List.replicate_zero, List.nil_append]
  refine st_any [some hWeek.d, some hRing.d, none, none] M (fun E' h => ?_) ?_
  · simp only [dVar, dC, dOp, dUn, dTst, dAnd, dOr, dNot, dAndV, dOrV, dNotV, dIfE, dNil, dCons, dTup, dLst, dNew, dCall, dB, dChain, dNext, dSeq, dDrop, dRet, dRetN, dIf, dAsg, gN, gSeq, gT, dPar2, dPar3, dAug, dRaise, dFor, dYes, dLc, dels, del, put, nth, startN, dFrz, dIx, dPart, dNoP, dSl, dApp, dPut, dM1, dFmt, dJs, dJoined, dIsi, dRg1, dRg2, dLsI, dTpI, dStI, dZip, dEnL, dLsRg1, dLsRg2, dNewK, dNewT, dOneT, dSetSort, dLsZip, dNewCan, oAdd, oSub, oMul, oDiv, oMod, oPow, oLt, oLe, oGt, oGe, oIs, oIsNot, oNeg, oIAdd, D.isN, bLen, bInt, bStr, bAbs, bBool, bList, bTuple, D.ty, D.isInt, D.isBool, D.isStr, D.isTup, D.isLst, List.map_cons, List.map_nil, List.length_cons, List.length_nil, List.replicate_succ, List.replicate_zero, List.cons_append, List.nil_append, Option.isSome_some, if_true, if_false, Bool.false_eq_true, reduceIte, Nat.reduceAdd, Nat.reduceSub, Bool.not_true, Bool.not_false, true_and, and_true]; exact ⟨by decide, by decide, by decide, h⟩
  refine st_any [some hWeek.d, some hRing.d, some tDue, none] M (fun E' h => ?_) ?_
  · simp only [dVar, dC, dOp, dUn, dTst, dAnd, dOr, dNot, dAndV, dOrV, dNotV, dIfE, dNil, dCons, dTup, dLst, dNew, dCall, dB, dChain, dNext, dSeq, dDrop, dRet, dRetN, dIf, dAsg, gN, gSeq, gT, dPar2, dPar3, dAug, dRaise, dFor, dYes, dLc, dels, del, put, nth, startN, dFrz, dIx, dPart, dNoP, dSl, dApp, dPut, dM1, dFmt, dJs, dJoined, dIsi, dRg1, dRg2, dLsI, dTpI, dStI, dZip, dEnL, dLsRg1, dLsRg2, dNewK, dNewT, dOneT, dSetSort, dLsZip, dNewCan, oAdd, oSub, oMul, oDiv, oMod, oPow, oLt, oLe, oGt, oGe, oIs, oIsNot, oNeg, oIAdd, D.isN, bLen, bInt, bStr, bAbs, bBool, bList, bTuple, D.ty, D.isInt, D.isBool, D.isStr, D.isTup, D.isLst, List.map_cons, List.map_nil, List.length_cons, List.length_nil, List.replicate_succ, List.replicate_zero, List.cons_append, List.nil_append, Option.isSome_some, if_true, if_false, Bool.false_eq_true, reduceIte, Nat.reduceAdd, Nat.reduceSub, Bool.not_true, Bool.not_false, true_and, and_true]; exact ⟨by decide, by decide, by decide, by decide, by decide, h⟩
  refine st_new2 ?_ ?_ fun p hp => ?_
  · refine tr_eq (x := tDue) (y := tDue) (fun k hk => ?_) (fun k hk => hk) (by decide +kernel) (by decide +kernel) (by decide +kernel)
    simp only [dVar, dC, dOp, dUn, dTst, dAnd, dOr, dNot, dAndV, dOrV, dNotV, dIfE, dNil, dCons, dTup, dLst, dNew, dCall, dB, dChain, dNext, dSeq, dDrop, dRet, dRetN, dIf, dAsg, gN, gSeq, gT, dPar2, dPar3, dAug, dRaise, dFor, dYes, dLc, dels, del, put, nth, startN, dFrz, dIx, dPart, dNoP, dSl, dApp, dPut, dM1, dFmt, dJs, dJoined, dIsi, dRg1, dRg2, dLsI, dTpI, dStI, dZip, dEnL, dLsRg1, dLsRg2, dNewK, dNewT, dOneT, dSetSort, dLsZip, dNewCan, oAdd, oSub, oMul, oDiv, oMod, oPow, oLt, oLe, oGt, oGe, oIs, oIsNot, oNeg, oIAdd, D.isN, bLen, bInt, bStr, bAbs, bBool, bList, bTuple, D.ty, D.isInt, D.isBool, D.isStr, D.isTup, D.isLst, List.map_cons, List.map_nil, List.length_cons, List.length_nil, List.replicate_succ, List.replicate_zero, List.cons_append, List.nil_append, Option.isSome_some, if_true, if_false, Bool.false_eq_true, reduceIte, Nat.reduceAdd, Nat.reduceSub, Bool.not_true, Bool.not_false, true_and, and_true]
    refine ⟨by decide, _, [0], _, a1, by decide, calok (by decide +kernel), s1, rfl, ?_⟩
    rw [f1]; exact hk
  · refine tr_eq (x := .int 96) (y := .int 96) (fun k hk => ?_) (fun k hk => hk) (by decide +kernel) (by decide +kernel) (by decide +kernel)
    unfold dB dCons dCall
    simp only [dVar, dC, dOp, dUn, dTst, dAnd, dOr, dNot, dAndV, dOrV, dNotV, dIfE, dNil, dCons, dTup, dLst, dNew, dCall, dB, dChain, dNext, dSeq, dDrop, dRet, dRetN, dIf, dAsg, gN, gSeq, gT, dPar2, dPar3, dAug, dRaise, dFor, dYes, dLc, dels, del, put, nth, startN, dFrz, dIx, dPart, dNoP, dSl, dApp, dPut, dM1, dFmt, dJs, dJoined, dIsi, dRg1, dRg2, dLsI, dTpI, dStI, dZip, dEnL, dLsRg1, dLsRg2, dNewK, dNewT, dOneT, dSetSort, dLsZip, dNewCan, oAdd, oSub, oMul, oDiv, oMod, oPow, oLt, oLe, oGt, oGe, oIs, oIsNot, oNeg, oIAdd, D.isN, bLen, bInt, bStr, bAbs, bBool, bList, bTuple, D.ty, D.isInt, D.isBool, D.isStr, D.isTup, D.isLst, List.map_cons, List.map_nil, List.length_cons, List.length_nil, List.replicate_succ, List.replicate_zero, List.cons_append, List.nil_append, Option.isSome_some, if_true, if_false, Bool.false_eq_true, reduceIte, Nat.reduceAdd, Nat.reduceSub, Bool.not_true, Bool.not_false, true_and, and_true]
    refine ⟨by decide, _, [0], _, a2, by decide, calok (by decide +kernel), s2, rfl, ?_⟩
    dsimp only
    rw [List.length_map, f2]; exact hk
  refine st_app rfl (tr_and ?_ ?_) (by decide) ?_
  · refine tr_eq (x := .lst ([0, 1, 2, 3, 4, 5].map D.int)) (y := .lst ([0, 1, 2, 3, 4, 5].map D.int)) (fun k hk => ?_) (fun k hk => ⟨by decide, hk⟩) (by decide +kernel) (by decide +kernel) (by decide +kernel)
    simp only [dVar, dC, dOp, dUn, dTst, dAnd, dOr, dNot, dAndV, dOrV, dNotV, dIfE, dNil, dCons, dTup, dLst, dNew, dCall, dB, dChain, dNext, dSeq, dDrop, dRet, dRetN, dIf, dAsg, gN, gSeq, gT, dPar2, dPar3, dAug, dRaise, dFor, dYes, dLc, dels, del, put, nth, startN, dFrz, dIx, dPart, dNoP, dSl, dApp, dPut, dM1, dFmt, dJs, dJoined, dIsi, dRg1, dRg2, dLsI, dTpI, dStI, dZip, dEnL, dLsRg1, dLsRg2, dNewK, dNewT, dOneT, dSetSort, dLsZip, dNewCan, oAdd, oSub, oMul, oDiv, oMod, oPow, oLt, oLe, oGt, oGe, oIs, oIsNot, oNeg, oIAdd, D.isN, bLen, bInt, bStr, bAbs, bBool, bList, bTuple, D.ty, D.isInt, D.isBool, D.isStr, D.isTup, D.isLst, List.map_cons, List.map_nil, List.length_cons, List.length_nil, List.replicate_succ, List.replicate_zero, List.cons_append, List.nil_append, Option.isSome_some, if_true, if_false, Bool.false_eq_true, reduceIte, Nat.reduceAdd, Nat.reduceSub, Bool.not_true, Bool.not_false, true_and, and_true]
    refine ⟨by decide, by decide, hWeek, [], [0], 7, okWeek, calok (by decide +kernel), calok (by decide +kernel), by decide, rfl, ?_⟩
    rw [f3]; exact hk
  · refine tr_eq (x := .lst []) (y := .lst []) (fun k hk => ?_) (fun k hk => ⟨by decide, hk⟩) (by decide +kernel) (by decide +kernel) (by decide +kernel)
    simp only [dVar, dC, dOp, dUn, dTst, dAnd, dOr, dNot, dAndV, dOrV, dNotV, dIfE, dNil, dCons, dTup, dLst, dNew, dCall, dB, dChain, dNext, dSeq, dDrop, dRet, dRetN, dIf, dAsg, gN, gSeq, gT, dPar2, dPar3, dAug, dRaise, dFor, dYes, dLc, dels, del, put, nth, startN, dFrz, dIx, dPart, dNoP, dSl, dApp, dPut, dM1, dFmt, dJs, dJoined, dIsi, dRg1, dRg2, dLsI, dTpI, dStI, dZip, dEnL, dLsRg1, dLsRg2, dNewK, dNewT, dOneT, dSetSort, dLsZip, dNewCan, oAdd, oSub, oMul, oDiv, oMod, oPow, oLt, oLe, oGt, oGe, oIs, oIsNot, oNeg, oIAdd, D.isN, bLen, bInt, bStr, bAbs, bBool, bList, bTuple, D.ty, D.isInt, D.isBool, D.isStr, D.isTup, D.isLst, List.map_cons, List.map_nil, List.length_cons, List.length_nil, List.replicate_succ, List.replicate_zero, List.cons_append, List.nil_append, Option.isSome_some, if_true, if_false, Bool.false_eq_true, reduceIte, Nat.reduceAdd, Nat.reduceSub, Bool.not_true, Bool.not_false, true_and, and_true]
    refine ⟨by decide, by decide, hRing, [], [3], 400, okRing, calok (by decide +kernel), calok (by decide +kernel), by decide, rfl, ?_⟩
    rw [f4]; exact hk
  refine st_app rfl ?_ (by decide) ?_
  · refine tr_eq (x := .lst ([1, 2, 3, 4, 5, 7, 8, 9, 10, 11, 12].map D.int)) (y := .lst ([1, 2, 3, 4, 5, 7, 8, 9, 10, 11, 12].map D.int)) (fun k hk => ?_) (fun k hk => ⟨by decide, hk⟩) (by decide +kernel) (by decide +kernel) (by decide +kernel)
    simp only [dVar, dC, dOp, dUn, dTst, dAnd, dOr, dNot, dAndV, dOrV, dNotV, dIfE, dNil, dCons, dTup, dLst, dNew, dCall, dB, dChain, dNext, dSeq, dDrop, dRet, dRetN, dIf, dAsg, gN, gSeq, gT, dPar2, dPar3, dAug, dRaise, dFor, dYes, dLc, dels, del, put, nth, startN, dFrz, dIx, dPart, dNoP, dSl, dApp, dPut, dM1, dFmt, dJs, dJoined, dIsi, dRg1, dRg2, dLsI, dTpI, dStI, dZip, dEnL, dLsRg1, dLsRg2, dNewK, dNewT, dOneT, dSetSort, dLsZip, dNewCan, oAdd, oSub, oMul, oDiv, oMod, oPow, oLt, oLe, oGt, oGe, oIs, oIsNot, oNeg, oIAdd, D.isN, bLen, bInt, bStr, bAbs, bBool, bList, bTuple, D.ty, D.isInt, D.isBool, D.isStr, D.isTup, D.isLst, List.map_cons, List.map_nil, List.length_cons, List.length_nil, List.replicate_succ, List.replicate_zero, List.cons_append, List.nil_append, Option.isSome_some, if_true, if_false, Bool.false_eq_true, reduceIte, Nat.reduceAdd, Nat.reduceSub, Bool.not_true, Bool.not_false, true_and, and_true]
    refine ⟨by decide, by decide, hWeek, [0], [0, 1], 14, okWeek, calok (by decide +kernel), calok (by decide +kernel), by decide, rfl, ?_⟩
    rw [f5]; exact hk
  refine st_end rfl (tr_and ?_ ?_) (by decide) (fg_self q)
  · refine tr_eq (x := .str (hTxt hWeek)) (y := .str ("01234/012345*1" : Str)) (fun k hk => ?_) (fun k hk => hk) (by decide +kernel) (by decide +kernel) (by decide +kernel)
    exact ⟨hWeek, okWeek, rfl, hk⟩
  · refine tr_eq (x := hRing.d) (y := hRing.d) (fun k hk => ?_) (fun k hk => hk) (by decide +kernel) (by decide +kernel) (by decide +kernel)
    exact ⟨rfl, hk⟩
end Dl
namespace Dl
open PySem
/-! # _law_kinds -/
theorem g1 : gbM hWeek 1 [0, 1, 2, 3, 4, 5, 6] 300 = some (some (1, 1)) := by decide +kernel
theorem g2 : gbM hWeek 2 [0, 1, 2, 3, 4, 5, 6] 300 = some none := by decide +kernel
theorem g3 : gbM hWeek 7 [5] 300 = some (some (0, 0)) := by decide +kernel
theorem g4 : gbM hWeek 1 [0, 1, 2, 3, 4] 300 = some (some (1, 1)) := by decide +kernel
theorem g5 : gbM hRing 7 [0] 300 = some (some (1, 1)) := by decide +kernel
theorem g6 : gbM hRing 2 [0, 1] 300 = some none := by decide +kernel
theorem g7 : gbM hPair 0 [] 300 = some (some (1, 1)) := by decide +kernel
theorem w1 : fewBy hWeek 1 100 10 = some 1 := by decide +kernel
theorem w2 : fewBy hWeek 2 100 10 = some 2 := by decide +kernel
theorem w3 : fewBy hWeek 3 100 10 = some 2 := by decide +kernel
theorem w4 : fewBy hWeek 4 100 10 = some 3 := by decide +kernel
theorem w5 : fewBy hRing 7 100 10 = some 2 := by decide +kernel
theorem w6 : fewBy hPair 1 100 10 = some 0 := by decide +kernel
theorem w7 : fewBy hRing 1 100 10 = some 1 := by decide +kernel
theorem w8 : fewBy hRing 2 100 10 = some 2 := by decide +kernel
def hWk2 : Hs := ⟨[0, 1, 2, 3, 4], [0, 1, 2, 3, 4, 5], 2⟩
def hWk3 : Hs := ⟨[0, 1, 2, 3, 4], [0, 1, 2, 3, 4], 2⟩
def hOne : Hs := ⟨[0], [0], 1⟩
theorem okWk2 : hWk2.Ok := Hs.ok_of (by decide +kernel)
theorem okWk3 : hWk3.Ok := Hs.ok_of (by decide +kernel)
theorem okOne : hOne.Ok := Hs.ok_of (by decide +kernel)
theorem n1 : neverSlower hWk2 hWeek = true := by decide +kernel
theorem n2 : neverSlower hWeek hWk3 = false := by decide +kernel
theorem n3 : neverSlower hOne hRing = false := by decide +kernel
theorem n4 : neverSlower hRing hOne = true := by decide +kernel
theorem kind_of {most : Int} {wd : List Nat} (h : (decide (0 ≤ most) && decide (most ≤ 7) && decide (Asc wd)) = true) : Kind most wd := by
  simp only [Bool.and_eq_true, decide_eq_true_eq] at h
  exact ⟨h.1.1, h.1.2, h.2⟩
theorem tr_ieq {a : DTE} {ρ : Env} {M : Mem} {R : DR} {i : Int} (ha : ∀ k : DQ, k (.int i) M → a ρ M k R) : Tr (dOp oEq a (dC (.int i))) ρ M R := tr_eq ha (fun k hk => hk) rfl rfl (by rw [eqv_int]; exact decide_eq_true rfl)
theorem tr_isn {a : DTE} {ρ : Env} {M : Mem} {R : DR} (ha : ∀ k : DQ, k .non M → a ρ M k R) : Tr (dOp oIs a (dC .non)) ρ M R := fun k hk => ha _ (by show oIs .non .non M k; exact hk)
theorem tr_not {a : DTE} {ρ : Env} {M : Mem} {R : DR} (ha : ∀ k : DQ, k (.bl false) M → a ρ M k R) : Tr (dNotV a) ρ M R := fun k hk => ha _ hk
def t_law_kinds : DTS := dSeq (dAsg (dTup (dCons (dTup (dCons (dC (.str ("01234" : Str))) (dCons (dC (.str ("012345" : Str))) (dCons (dC (.int 1)) (dNil))))) (dCons (dTup (dCons (dC (.str ("0" : Str))) (dCons (dC (.str ("01" : Str))) (dCons (dC (.int 1)) (dNil))))) (dCons (dTup (dCons (dC (.str ("0123456" : Str))) (dCons (dC (.str ("01245" : Str))) (dCons (dC (.int 2)) (dNil))))) (dNil))))) (gT [gN 0, gN 1, gN 2])) (dSeq (dAsg (dNew (dCons (dOp oEq (dCall S_latest (dCons (dVar 0) (dCons (dC (.int 1)) (dCons (dC (.str ("0123456" : Str))) (dNil))))) (dC (.int 1))) (dCons (dOp oIs (dCall S_latest (dCons (dVar 0) (dCons (dC (.int 2)) (dCons (dC (.str ("0123456" : Str))) (dNil))))) (dC .non)) (dCons (dOp oEq (dCall S_latest (dCons (dVar 0) (dCons (dC (.int 7)) (dCons (dC (.str ("5" : Str))) (dNil))))) (dC (.int 0))) (dNil))))) (gN 3)) (dSeq (dDrop (dApp (dVar 3) (dAndV (dOp oEq (dCall S_latest (dCons (dVar 0) (dCons (dC (.int 1)) (dCons (dC (.str ("01234" : Str))) (dNil))))) (dC (.int 1))) (dAndV (dOp oEq (dCall S_latest (dCons (dVar 1) (dCons (dC (.int 7)) (dCons (dC (.str ("0" : Str))) (dNil))))) (dC (.int 1))) (dOp oIs (dCall S_latest (dCons (dVar 1) (dCons (dC (.int 2)) (dCons (dC (.str ("01" : Str))) (dNil))))) (dC .non)))))) (dSeq (dDrop (dApp (dVar 3) (dAndV (dOp oEq (dCall S_latest (dCons (dVar 2) (dCons (dC (.int 0)) (dCons (dC (.str ("" : Str))) (dNil))))) (dC (.int 1))) (dOp oEq (dCall S_most_waiting (dCons (dVar 0) (dCons (dC (.int 1)) (dCons (dC (.str ("0123456" : Str))) (dNil))))) (dC (.int 1)))))) (dSeq (dDrop (dApp (dVar 3) (dAndV (dOp oEq (dLc [4] (dTpI (dTup (dCons (dC (.int 1)) (dCons (dC (.int 2)) (dCons (dC (.int 3)) (dCons (dC (.int 4)) (dNil))))))) (gN 4) (dYes) (dCall S_fewest (dCons (dVar 0) (dCons (dVar 4) (dNil))))) (dLst (dCons (dC (.int 1)) (dCons (dC (.int 2)) (dCons (dC (.int 2)) (dCons (dC (.int 3)) (dNil))))))) (dOp oEq (dCall S_fewest (dCons (dVar 1) (dCons (dC (.int 7)) (dNil)))) (dC (.int 2)))))) (dSeq (dDrop (dApp (dVar 3) (dAndV (dOp oEq (dCall S_fewest (dCons (dVar 2) (dCons (dC (.int 1)) (dNil)))) (dC (.int 0))) (dAndV (dOp oEq (dCall S_fewest (dCons (dVar 1) (dCons (dC (.int 1)) (dNil)))) (dC (.int 1))) (dOp oEq (dCall S_fewest (dCons (dVar 1) (dCons (dC (.int 2)) (dNil)))) (dC (.int 2))))))) (dSeq (dDrop (dApp (dVar 3) (dAndV (dCall S_never_slower (dCons (dTup (dCons (dC (.str ("01234" : Str))) (dCons (dC (.str ("012345" : Str))) (dCons (dC (.int 2)) (dNil))))) (dCons (dVar 0) (dNil)))) (dNotV (dCall S_never_slower (dCons (dVar 0) (dCons (dTup (dCons (dC (.str ("01234" : Str))) (dCons (dC (.str ("01234" : Str))) (dCons (dC (.int 2)) (dNil))))) (dNil)))))))) (dRet (dOp oAdd (dFrz (dVar 3)) (dLst (dCons (dAndV (dNotV (dCall S_never_slower (dCons (dTup (dCons (dC (.str ("0" : Str))) (dCons (dC (.str ("0" : Str))) (dCons (dC (.int 1)) (dNil))))) (dCons (dVar 1) (dNil))))) (dCall S_never_slower (dCons (dVar 1) (dCons (dTup (dCons (dC (.str ("0" : Str))) (dCons (dC (.str ("0" : Str))) (dCons (dC (.int 1)) (dNil))))) (dNil))))) (dNil)))))))))))
theorem kp_law_kinds : Keeps S_law_kinds 5 t_law_kinds := by
  rintro ds M Q R ⟨rfl, q⟩
  simp only [t_law_kinds, xe, x0, x01, x5, x01245, x01234, x012345, x0123456, startN, List.length_nil, Nat.reduceSub, List.map_nil, List.replicate_succ, List.replicate_zero, List.nil_append]
  refine st_any [some hWeek.d, some hRing.d, some hPair.d, none, none] M (fun E' h => ?_) ?_
  · simp only [dVar, dC, dOp, dUn, dTst, dAnd, dOr, dNot, dAndV, dOrV, dNotV, dIfE, dNil, dCons, dTup, dLst, dNew, dCall, dB, dChain, dNext, dSeq, dDrop, dRet, dRetN, dIf, dAsg, gN, gSeq, gT, dPar2, dPar3, dAug, dRaise, dFor, dYes, dLc, dels, del, put, nth, startN, dFrz, dIx, dPart, dNoP, dSl, dApp, dPut, dM1, dFmt, dJs, dJoined, dIsi, dRg1, dRg2, dLsI, dTpI, dStI, dZip, dEnL, dLsRg1, dLsRg2, dNewK, dNewT, dOneT, dSetSort, dLsZip, dNewCan, oAdd, oSub, oMul, oDiv, oMod, oPow, oLt, oLe, oGt, oGe, oIs, oIsNot, oNeg, oIAdd, D.isN, bLen, bInt, bStr, bAbs, bBool, bList, bTuple, D.ty, D.isInt, D.isBool, D.isStr, D.isTup, D.isLst, List.map_cons, List.map_nil, List.length_cons, List.length_nil, List.replicate_succ, List.replicate_zero, List.cons_append, List.nil_append, Option.isSome_some, if_true, if_false, Bool.false_eq_true, reduceIte, Nat.reduceAdd, Nat.reduceSub, Bool.not_true, Bool.not_false, true_and, and_true]; exact ⟨by decide, by decide, by decide, by decide, h⟩
  refine st_new3 ?_ ?_ ?_ fun p hp => ?_
  · exact tr_ieq fun k hk => ⟨hWeek, 1, _, 300, _, okWeek, kind_of (by decide +kernel), rfl, g1, hk⟩
  · exact tr_isn fun k hk => ⟨hWeek, 2, _, 300, _, okWeek, kind_of (by decide +kernel), rfl, g2, hk⟩
  · exact tr_ieq fun k hk => ⟨hWeek, 7, _, 300, _, okWeek, kind_of (by decide +kernel), rfl, g3, hk⟩
  refine st_app rfl (tr_and ?_ (tr_and ?_ ?_)) (by decide) ?_
  · exact tr_ieq fun k hk => ⟨hWeek, 1, _, 300, _, okWeek, kind_of (by decide +kernel), rfl, g4, hk⟩
  · exact tr_ieq fun k hk => ⟨hRing, 7, _, 300, _, okRing, kind_of (by decide +kernel), rfl, g5, hk⟩
  · exact tr_isn fun k hk => ⟨hRing, 2, _, 300, _, okRing, kind_of (by decide +kernel), rfl, g6, hk⟩
  refine st_app rfl (tr_and ?_ ?_) (by decide) ?_
  · exact tr_ieq fun k hk => ⟨hPair, 0, _, 300, _, okPair, kind_of (by decide +kernel), rfl, g7, hk⟩
  · exact tr_ieq fun k hk => ⟨hWeek, 1, _, 300, _, okWeek, kind_of (by decide +kernel), rfl, g1, hk⟩
  refine st_app rfl (tr_and ?_ ?_) (by decide) ?_
  · refine tr_eq (x := .lst ([1, 2, 2, 3].map D.int)) (y := .lst ([1, 2, 2, 3].map D.int)) (fun k hk => ?_) (fun k hk => ⟨by decide, hk⟩) (by decide +kernel) (by decide +kernel) (by decide +kernel)
    simp only [dVar, dC, dOp, dUn, dTst, dAnd, dOr, dNot, dAndV, dOrV, dNotV, dIfE, dNil, dCons, dTup, dLst, dNew, dCall, dB, dChain, dNext, dSeq, dDrop, dRet, dRetN, dIf, dAsg, gN, gSeq, gT, dPar2, dPar3, dAug, dRaise, dFor, dYes, dLc, dels, del, put, nth, startN, dFrz, dIx, dPart, dNoP, dSl, dApp, dPut, dM1, dFmt, dJs, dJoined, dIsi, dRg1, dRg2, dLsI, dTpI, dStI, dZip, dEnL, dLsRg1, dLsRg2, dNewK, dNewT, dOneT, dSetSort, dLsZip, dNewCan, oAdd, oSub, oMul, oDiv, oMod, oPow, oLt, oLe, oGt, oGe, oIs, oIsNot, oNeg, oIAdd, D.isN, bLen, bInt, bStr, bAbs, bBool, bList, bTuple, D.ty, D.isInt, D.isBool, D.isStr, D.isTup, D.isLst, List.map_cons, List.map_nil, List.length_cons, List.length_nil, List.replicate_succ, List.replicate_zero, List.cons_append, List.nil_append, Option.isSome_some, if_true, if_false, Bool.false_eq_true, reduceIte, Nat.reduceAdd, Nat.reduceSub, Bool.not_true, Bool.not_false, true_and, and_true]
    refine ⟨by decide, _, rfl, by decide, lc_map (fun d => .int (if d.iv = 4 then 3 else if d.iv = 1 then 1 else 2)) _ (fun d hd k1 hk1 => ?_) hk⟩
    simp only [List.mem_cons, List.not_mem_nil, or_false] at hd
    simp only [dVar, dC, dOp, dUn, dTst, dAnd, dOr, dNot, dAndV, dOrV, dNotV, dIfE, dNil, dCons, dTup, dLst, dNew, dCall, dB, dChain, dNext, dSeq, dDrop, dRet, dRetN, dIf, dAsg, gN, gSeq, gT, dPar2, dPar3, dAug, dRaise, dFor, dYes, dLc, dels, del, put, nth, startN, dFrz, dIx, dPart, dNoP, dSl, dApp, dPut, dM1, dFmt, dJs, dJoined, dIsi, dRg1, dRg2, dLsI, dTpI, dStI, dZip, dEnL, dLsRg1, dLsRg2, dNewK, dNewT, dOneT, dSetSort, dLsZip, dNewCan, oAdd, oSub, oMul, oDiv, oMod, oPow, oLt, oLe, oGt, oGe, oIs, oIsNot, oNeg, oIAdd, D.isN, bLen, bInt, bStr, bAbs, bBool, bList, bTuple, D.ty, D.isInt, D.isBool, D.isStr, D.isTup, D.isLst, List.map_cons, List.map_nil, List.length_cons, List.length_nil, List.replicate_succ, List.replicate_zero, List.cons_append, List.nil_append, Option.isSome_some, if_true, if_false, Bool.false_eq_true, reduceIte, Nat.reduceAdd, Nat.reduceSub, Bool.not_true, Bool.not_false, true_and, and_true]
    rcases hd with rfl | rfl | rfl | rfl
    · exact ⟨hWeek, 1, 100, 10, _, okWeek, by decide, by decide, rfl, w1, hk1⟩
    · exact ⟨hWeek, 2, 100, 10, _, okWeek, by decide, by decide, rfl, w2, hk1⟩
    · exact ⟨hWeek, 3, 100, 10, _, okWeek, by decide, by decide, rfl, w3, hk1⟩
    · exact ⟨hWeek, 4, 100, 10, _, okWeek, by decide, by decide, rfl, w4, hk1⟩
  · exact tr_ieq fun k hk => ⟨hRing, 7, 100, 10, _, okRing, by decide, by decide, rfl, w5, hk⟩
  refine st_app rfl (tr_and ?_ (tr_and ?_ ?_)) (by decide) ?_
  · exact tr_ieq fun k hk => ⟨hPair, 1, 100, 10, _, okPair, by decide, by decide, rfl, w6, hk⟩
  · exact tr_ieq fun k hk => ⟨hRing, 1, 100, 10, _, okRing, by decide, by decide, rfl, w7, hk⟩
  · exact tr_ieq fun k hk => ⟨hRing, 2, 100, 10, _, okRing, by decide, by decide, rfl, w8, hk⟩
  refine st_app rfl (tr_and ?_ ?_) (by decide) ?_
  · intro k hk
    exact ⟨by decide, hWk2, hWeek, okWk2, okWeek, rfl, fun _ => by rw [n1]; exact hk, fun z => absurd rfl z⟩
  · refine tr_not fun k hk => ?_
    exact ⟨by decide, hWeek, hWk3, okWeek, okWk3, rfl, fun _ => by rw [n2]; exact hk, fun z => absurd rfl z⟩
  refine st_end rfl (tr_and ?_ ?_) (by decide) (fg_self q)
  · refine tr_not fun k hk => ?_
    exact ⟨by decide, hOne, hRing, okOne, okRing, rfl, fun _ => by rw [n3]; exact hk, fun z => absurd rfl z⟩
  · intro k hk
    exact ⟨by decide, hRing, hOne, okRing, okOne, rfl, fun _ => by rw [n4]; exact hk, fun z => absurd rfl z⟩
end Dl
namespace Dl
open PySem
/-! # _law_week: however far -/
structure Sh (w : Nat) (ns ns' : List Int) : Prop where
  at_ : ∀ i : Nat, ((7 * w + i : Nat) : Int) ∈ ns ↔ (i : Int) ∈ ns'
  no : ∀ i : Nat, i < 7 * w → ¬ (i : Int) ∈ ns
theorem md7_sh (w i : Nat) : md7 ((7 * w + i : Nat) : Int) = md7 (i : Int) := by unfold md7; omega
theorem bo_sh (h : Hs) (w i : Nat) : bo h ((7 * w + i : Nat) : Int) = bo h (i : Int) := by unfold bo; rw [md7_sh]
theorem mdn_sh (h : Hs) (w i : Nat) (b : Bool) : mdn h ((7 * w + i : Nat) : Int) b = mdn h (i : Int) b := by unfold mdn; rw [md7_sh]
theorem wb_sh (h : Hs) (w i : Nat) (x : Int) (b : Bool) : wb h ((7 * w + i : Nat) : Int) x b = wb h (i : Int) x b := by unfold wb; rw [mdn_sh, bo_sh]
theorem wr_sh {h : Hs} {w : Nat} {ns ns' : List Int} (s : Sh w ns ns') (x : Int) : ∀ k, wr h ns (7 * w) k x = wr h ns' 0 k x
  | 0 => rfl
  | k + 1 => by
    show wb h _ _ _ = wb h _ _ _
    rw [wr_sh s x k, wb_sh, decide_eq_decide.mpr (s.at_ k), Nat.zero_add]
theorem wr_week {h : Hs} {w : Nat} {ns : List Int} (hz : wr h [] 0 7 0 = 0) (no : ∀ i : Nat, i < 7 * w → ¬ (i : Int) ∈ ns) : ∀ k, k ≤ w → wr h ns 0 (7 * k) 0 = 0
  | 0, _ => rfl
  | k + 1, hk => by
    rw [show 7 * (k + 1) = 7 * k + 7 by omega, wr_add, wr_week hz no k (by omega), Nat.zero_add]
    have e : ∀ j, j ≤ 7 → ∀ x, wr h ns (7 * k) j x = wr h [] 0 j x := by
      intro j
      induction j with
      | zero => intro _ _; rfl
      | succ j ih =>
        intro hj x
        show wb h _ _ _ = wb h _ _ _
        rw [ih (by omega), wb_sh, decide_eq_false (no _ (by omega)), Nat.zero_add, decide_eq_false (by simp)]
    rw [e 7 (Nat.le_refl _), hz]
section
variable {w : Nat} {ns ns' : List Int}
theorem wz : wr hWeek [] 0 7 0 = 0 := by decide +kernel
theorem wa_sh (s : Sh w ns ns') (j : Nat) : wa hWeek ns (7 * w + j) = wa hWeek ns' j := by
  unfold wa
  rw [wr_add, wr_week wz s.no w (Nat.le_refl _), Nat.zero_add, wr_sh s]
theorem dsum_sh (s : Sh w ns ns') (a : Nat) : ∀ k, dsum hWeek ns (7 * w + a) k = dsum hWeek ns' a k
  | 0 => rfl
  | k + 1 => by
    show dsum hWeek ns (7 * w + a) k + mdn _ _ _ = dsum hWeek ns' a k + mdn _ _ _
    rw [dsum_sh s a k, Nat.add_assoc, mdn_sh, decide_eq_decide.mpr (s.at_ (a + k))]
theorem done_sh (s : Sh w ns ns') {a k : Nat} (d : DoneAt hWeek ns' a k) : DoneAt hWeek ns (7 * w + a) k := ⟨by rw [wa_sh s, dsum_sh s]; exact d.at_, fun j hj => by rw [wa_sh s, dsum_sh s]; exact d.no j hj⟩
theorem wat_sh (s : Sh w ns ns') (j : Nat) : wat hWeek ns (7 * w + j) = wat hWeek ns' j := by
  unfold wat
  rw [wa_sh s, wb_sh, decide_eq_decide.mpr (s.at_ j)]
theorem rb_sh (w j : Nat) : rb hWeek ((7 * w + j : Nat) : Int) = 5 * w + rb hWeek (j : Int) := by
  unfold rb
  rw [md7_sh]
  have e : (hWeek.work.length : Int) = 5 := rfl
  rw [e, show ((7 * w + j : Nat) : Int) / 7 = w + (j : Int) / 7 by omega]
  omega
theorem rb_sh1 (w j : Nat) : rb hWeek (((7 * w + j : Nat) : Int) + 1) = 5 * w + rb hWeek ((j : Int) + 1) := by
  have := rb_sh w (j + 1)
  rw [show ((7 * w + (j + 1) : Nat) : Int) = ((7 * w + j : Nat) : Int) + 1 by omega, show ((j + 1 : Nat) : Int) = (j : Int) + 1 by omega] at this
  exact this
theorem dby_sh (s : Sh w ns ns') (j : Nat) : dby hWeek ns (7 * w + j) = 5 * w + dby hWeek ns' j := by
  unfold dby
  rw [wat_sh s, rb_sh1]; omega
theorem dayBy_sh (w m : Nat) : dayBy hWeek ((5 * w + m : Nat) : Int) = 7 * w + dayBy hWeek (m : Int) := by
  unfold dayBy
  have e : (hWeek.work.length : Int) = 5 := rfl
  rw [e, show ((5 * w + m : Nat) : Int) / 5 = w + (m : Int) / 5 by omega, show ((5 * w + m : Nat) : Int) % 5 = (m : Int) % 5 by omega]
  omega
theorem doneAt_sh (s : Sh w ns ns') (j : Nat) : doneAt hWeek ns (7 * w + j) = .lst (rgD (5 * w + (rb hWeek j - wa hWeek ns' j)) (dby hWeek ns' j - (rb hWeek j - wa hWeek ns' j)).toNat) := by
  unfold doneAt
  rw [dby_sh s, wa_sh s, rb_sh]
  congr 2
  · omega
  · omega
end
instance (h : Hs) (ns : List Int) (a k : Nat) : Decidable (DoneAt h ns a k) := decidable_of_iff (wa h ns a < dsum h ns a (k + 1) ∧ ∀ j, j < k → dsum h ns a (j + 1) ≤ wa h ns a) ⟨fun z => ⟨z.1, z.2⟩, fun z => ⟨z.at_, z.no⟩⟩
def lo28 (w : Nat) : Prop := (w : Int) ≤ 10000000000000000000000000000
section
variable {w : Nat} (hw : lo28 w)
include hw
theorem c1 : CalOk [((7 * w : Nat) : Int)] := by
  unfold lo28 at hw
  refine ⟨by simp, rfl, ?_⟩
  simp only [List.all_cons, List.all_nil, Bool.and_true, Bool.and_eq_true, decide_eq_true_eq]
  unfold great; omega
theorem c2 (a b : Nat) (hab : a < b) (hb : b ≤ 20) : CalOk [((7 * w : Nat) : Int) + a, ((7 * w : Nat) : Int) + b] := by
  unfold lo28 at hw
  refine ⟨by simp, ?_, ?_⟩
  · simp only [ascI, Bool.and_true, decide_eq_true_eq]; omega
  · simp only [List.all_cons, List.all_nil, Bool.and_true, Bool.and_eq_true, decide_eq_true_eq]
    unfold great; omega
theorem c2' : CalOk [((7 * w : Nat) : Int), ((7 * w : Nat) : Int) + 1] := by
  have := c2 hw 0 1 (by decide) (by decide)
  simpa using this
theorem c3 : CalOk [((7 * w : Nat) : Int), ((7 * w : Nat) : Int) + 1, ((7 * w : Nat) : Int) + 7] := by
  unfold lo28 at hw
  refine ⟨by simp, ?_, ?_⟩
  · simp only [ascI, Bool.and_true, decide_eq_true_eq, Bool.and_eq_true]; omega
  · simp only [List.all_cons, List.all_nil, Bool.and_true, Bool.and_eq_true, decide_eq_true_eq]
    unfold great; omega
end
theorem h1 (w : Nat) : Sh w [((7 * w : Nat) : Int)] [0] := ⟨fun i => by simp only [List.mem_cons, List.not_mem_nil, or_false]; omega, fun i hi => by simp only [List.mem_cons, List.not_mem_nil, or_false]; omega⟩
theorem h2 (w : Nat) : Sh w [((7 * w : Nat) : Int), ((7 * w : Nat) : Int) + 1] [0, 1] := ⟨fun i => by simp only [List.mem_cons, List.not_mem_nil, or_false]; omega, fun i hi => by simp only [List.mem_cons, List.not_mem_nil, or_false]; omega⟩
theorem h3 (w : Nat) : Sh w [((7 * w : Nat) : Int), ((7 * w : Nat) : Int) + 1, ((7 * w : Nat) : Int) + 7] [0, 1, 7] := ⟨fun i => by simp only [List.mem_cons, List.not_mem_nil, or_false]; omega, fun i hi => by simp only [List.mem_cons, List.not_mem_nil, or_false]; omega⟩
theorem h4 (w : Nat) : Sh w [((7 * w : Nat) : Int) + 4, ((7 * w : Nat) : Int) + 5] [4, 5] := ⟨fun i => by simp only [List.mem_cons, List.not_mem_nil, or_false]; omega, fun i hi => by simp only [List.mem_cons, List.not_mem_nil, or_false]; omega⟩
theorem roundOn_sh (w j : Nat) : roundOn hWeek ((7 * w + j : Nat) : Int) = if bo hWeek (j : Int) > 0 then .int (5 * w + rb hWeek (j : Int)) else .non := by
  unfold roundOn; rw [bo_sh, rb_sh]
theorem tr_dq {a b : DTE} {ρ : Env} {M : Mem} {R : DR} {i j : Int} (ha : ∀ k : DQ, k (.int i) M → a ρ M k R) (hb : ∀ k : DQ, k (.int j) M → b ρ M k R) (e : i = j) : Tr (dOp oEq a b) ρ M R := tr_eq ha hb rfl rfl (by rw [eqv_int]; exact decide_eq_true e)
def t_law_week : DTS := dSeq (dPar3 1 2 3 (dCons (dTup (dCons (dC (.str ("01234" : Str))) (dCons (dC (.str ("012345" : Str))) (dCons (dC (.int 1)) (dNil))))) (dCons (dOp oMul (dC (.int 7)) (dVar 0)) (dCons (dOp oMul (dC (.int 5)) (dVar 0)) (dNil))))) (dSeq (dAsg (dNew (dCons (dOp oEq (dCall S_done_on (dCons (dVar 1) (dCons (dTup (dCons (dVar 2) (dNil))) (dCons (dOp oAdd (dVar 3) (dC (.int 4))) (dNil))))) (dOp oAdd (dVar 2) (dC (.int 5)))) (dCons (dOp oEq (dCall S_done_on (dCons (dVar 1) (dCons (dTup (dCons (dVar 2) (dCons (dOp oAdd (dVar 2) (dC (.int 1))) (dNil)))) (dCons (dOp oAdd (dVar 3) (dC (.int 4))) (dNil))))) (dOp oAdd (dVar 2) (dC (.int 7)))) (dNil)))) (gN 4)) (dSeq (dDrop (dApp (dVar 4) (dOp oEq (dCall S_done_on (dCons (dVar 1) (dCons (dTup (dCons (dVar 2) (dCons (dOp oAdd (dVar 2) (dC (.int 1))) (dNil)))) (dCons (dOp oAdd (dVar 3) (dC (.int 9))) (dNil))))) (dOp oAdd (dVar 2) (dC (.int 12)))))) (dSeq (dDrop (dApp (dVar 4) (dOp oEq (dCall S_done_on (dCons (dVar 1) (dCons (dTup (dCons (dVar 2) (dCons (dOp oAdd (dVar 2) (dC (.int 1))) (dNil)))) (dCons (dOp oAdd (dVar 3) (dC (.int 10))) (dNil))))) (dOp oAdd (dVar 2) (dC (.int 14)))))) (dSeq (dDrop (dApp (dVar 4) (dAndV (dOp oEq (dCall S_done_at (dCons (dVar 1) (dCons (dTup (dCons (dVar 2) (dCons (dOp oAdd (dVar 2) (dC (.int 1))) (dNil)))) (dCons (dOp oAdd (dVar 2) (dC (.int 7))) (dNil))))) (dLst (dCons (dOp oAdd (dVar 3) (dC (.int 4))) (dNil)))) (dOp oEq (dCall S_done_at (dCons (dVar 1) (dCons (dTup (dCons (dVar 2) (dCons (dOp oAdd (dVar 2) (dC (.int 1))) (dNil)))) (dCons (dOp oAdd (dVar 2) (dC (.int 6))) (dNil))))) (dLst (dNil)))))) (dSeq (dDrop (dApp (dVar 4) (dAndV (dOp oEq (dCall S_waiting (dCons (dVar 1) (dCons (dTup (dCons (dVar 2) (dCons (dOp oAdd (dVar 2) (dC (.int 1))) (dNil)))) (dCons (dOp oAdd (dVar 2) (dC (.int 4))) (dNil))))) (dC (.int 2))) (dOp oEq (dCall S_done_upto (dCons (dVar 1) (dCons (dTup (dCons (dVar 2) (dCons (dOp oAdd (dVar 2) (dC (.int 1))) (dNil)))) (dCons (dOp oAdd (dVar 2) (dC (.int 6))) (dNil))))) (dOp oAdd (dVar 3) (dC (.int 4))))))) (dSeq (dDrop (dApp (dVar 4) (dOp oEq (dCall S_done_on (dCons (dVar 1) (dCons (dTup (dCons (dOp oAdd (dVar 2) (dC (.int 4))) (dCons (dOp oAdd (dVar 2) (dC (.int 5))) (dNil)))) (dCons (dOp oAdd (dVar 3) (dC (.int 4))) (dNil))))) (dOp oAdd (dVar 2) (dC (.int 7)))))) (dSeq (dDrop (dApp (dVar 4) (dOp oEq (dCall S_done_on (dCons (dVar 1) (dCons (dTup (dCons (dVar 2) (dCons (dOp oAdd (dVar 2) (dC (.int 1))) (dCons (dOp oAdd (dVar 2) (dC (.int 7))) (dNil))))) (dCons (dOp oAdd (dVar 3) (dC (.int 4))) (dNil))))) (dOp oAdd (dVar 2) (dC (.int 8)))))) (dSeq (dDrop (dApp (dVar 4) (dAndV (dOp oEq (dCall S_round_on (dCons (dVar 1) (dCons (dOp oAdd (dVar 2) (dC (.int 9))) (dNil)))) (dOp oAdd (dVar 3) (dC (.int 7)))) (dOp oIs (dCall S_round_on (dCons (dVar 1) (dCons (dOp oAdd (dVar 2) (dC (.int 12))) (dNil)))) (dC .non))))) (dRet (dOp oAdd (dFrz (dVar 4)) (dLst (dCons (dOp oEq (dCall S_day_of (dCons (dVar 1) (dCons (dVar 3) (dNil)))) (dVar 2)) (dNil)))))))))))))
theorem kp_law_week : Keeps S_law_week 5 t_law_week := by
  rintro ds M Q R ⟨w, hw, rfl, q⟩
  replace hw : lo28 w := hw
  have hg : (w : Int) ≤ 10000000000000000000000000000 := hw
  simp only [t_law_week, x01234, x012345, startN, List.length_cons, List.length_nil, Nat.reduceSub, Nat.reduceAdd, List.map_cons, List.map_nil, List.replicate_succ, List.replicate_zero, List.nil_append, List.cons_append]
  refine st_any [some (.int (w : Int)), some hWeek.d, some (.int ((7 * w : Nat) : Int)), some (.int ((5 * w : Nat) : Int)), none] M (fun E' h => ?_) ?_
  · simp only [dVar, dC, dOp, dUn, dTst, dAnd, dOr, dNot, dAndV, dOrV, dNotV, dIfE, dNil, dCons, dTup, dLst, dNew, dCall, dB, dChain, dNext, dSeq, dDrop, dRet, dRetN, dIf, dAsg, gN, gSeq, gT, dPar2, dPar3, dAug, dRaise, dFor, dYes, dLc, dels, del, put, nth, startN, dFrz, dIx, dPart, dNoP, dSl, dApp, dPut, dM1, dFmt, dJs, dJoined, dIsi, dRg1, dRg2, dLsI, dTpI, dStI, dZip, dEnL, dLsRg1, dLsRg2, dNewK, dNewT, dOneT, dSetSort, dLsZip, dNewCan, oAdd, oSub, oMul, oDiv, oMod, oPow, oLt, oLe, oGt, oGe, oIs, oIsNot, oNeg, oIAdd, D.isN, bLen, bInt, bStr, bAbs, bBool, bList, bTuple, D.ty, D.isInt, D.isBool, D.isStr, D.isTup, D.isLst, List.map_cons, List.map_nil, List.length_cons, List.length_nil, List.replicate_succ, List.replicate_zero, List.cons_append, List.nil_append, Option.isSome_some, if_true, if_false, Bool.false_eq_true, reduceIte, Nat.reduceAdd, Nat.reduceSub, Bool.not_true, Bool.not_false, true_and, and_true]
    exact ⟨by decide, .inl ⟨by decide, by decide⟩, .inl ⟨by decide, by decide⟩, h⟩
  -- done_on at many + m
  have don : ∀ {ns ns' : List Int} {m a k : Nat} {M : Mem} {Q : DQ} {R : Exn → Mem → Prop}, CalOk ns → Sh w ns ns' → m ≤ 20 → dayBy hWeek (m : Int) = (a : Int) → DoneAt hWeek ns' a k → Q (.int ((7 * w + a + k : Nat) : Int)) M → S_done_on [hWeek.d, cal ns, .int ((5 * w : Nat) + (m : Int))] M Q R := fun {ns ns' m a k M Q R} c s hm ha d hq =>
    ⟨hWeek, ns, 5 * w + m, 7 * w + a, k, okWeek, c, by unfold great; omega, rfl, by rw [dayBy_sh, ha]; omega, done_sh s d, hq⟩
  refine st_new2 ?_ ?_ fun p hp => ?_
  · refine tr_dq (i := ((7 * w + 4 + 1 : Nat) : Int)) (fun k hk => ⟨(by simp), don (R := fun _ _ => False) (m := 4) (a := 4) (k := 1) (c1 hw) (h1 w) (by decide) (by decide +kernel) (by decide +kernel) hk⟩) (fun k hk => hk) (by omega)
  · refine tr_dq (i := ((7 * w + 4 + 3 : Nat) : Int)) (fun k hk => ⟨(by simp), don (R := fun _ _ => False) (m := 4) (a := 4) (k := 3) (c2' hw) (h2 w) (by decide) (by decide +kernel) (by decide +kernel) hk⟩) (fun k hk => hk) (by omega)
  refine st_app rfl ?_ (by decide) ?_
  · refine tr_dq (i := ((7 * w + 11 + 1 : Nat) : Int)) (fun k hk => ⟨(by simp), don (R := fun _ _ => False) (m := 9) (a := 11) (k := 1) (c2' hw) (h2 w) (by decide) (by decide +kernel) (by decide +kernel) hk⟩) (fun k hk => hk) (by omega)
  refine st_app rfl ?_ (by decide) ?_
  · refine tr_dq (i := ((7 * w + 14 + 0 : Nat) : Int)) (fun k hk => ⟨(by simp), don (R := fun _ _ => False) (m := 10) (a := 14) (k := 0) (c2' hw) (h2 w) (by decide) (by decide +kernel) (by decide +kernel) hk⟩) (fun k hk => hk) (by omega)
  refine st_app rfl (tr_and ?_ ?_) (by decide) ?_
  · refine tr_eq (x := doneAt hWeek [((7 * w : Nat) : Int), ((7 * w : Nat) : Int) + 1] (7 * w + 7)) (y := .lst [.int ((5 * w : Nat) + 4)]) (fun k hk => ⟨(by simp), hWeek, _, 7 * w + 7, okWeek, c2' hw, by unfold great; omega, ?_, rfl, hk⟩) (fun k hk => ⟨(by simp), hk⟩) ?_ rfl ?_
    · rw [dby_sh (h2 w), wa_sh (h2 w), rb_sh]
      have : dby hWeek [0, 1] 7 = 5 := by decide +kernel
      have : rb hWeek ((7 : Nat) : Int) - wa hWeek [0, 1] 7 = 4 := by decide +kernel
      omega
    · rw [doneAt_sh (h2 w)]
      have e1 : dby hWeek [0, 1] 7 = 5 := by decide +kernel
      have e2 : rb hWeek ((7 : Nat) : Int) - wa hWeek [0, 1] 7 = 4 := by decide +kernel
      rw [e1, e2]
      rfl
    · rw [doneAt_sh (h2 w)]
      have e1 : dby hWeek [0, 1] 7 = 5 := by decide +kernel
      have e2 : rb hWeek ((7 : Nat) : Int) - wa hWeek [0, 1] 7 = 4 := by decide +kernel
      rw [e1, e2]
      have e3 : rgD (5 * (w : Int) + 4) (Int.toNat (5 - 4)) = [.int ((5 * w : Nat) + 4)] := by
        show [D.int (5 * (w : Int) + 4 + ((0 : Nat) : Int))] = _
        congr 2
      rw [e3]
      simp [D.eqv, D.py, D.pyL, PyData.eqv, PyData.eqvAll]
  · refine tr_eq (x := doneAt hWeek [((7 * w : Nat) : Int), ((7 * w : Nat) : Int) + 1] (7 * w + 6)) (y := .lst []) (fun k hk => ⟨(by simp), hWeek, _, 7 * w + 6, okWeek, c2' hw, by unfold great; omega, ?_, rfl, hk⟩) (fun k hk => ⟨(by simp), hk⟩) ?_ rfl ?_
    · rw [dby_sh (h2 w), wa_sh (h2 w), rb_sh]
      have : dby hWeek [0, 1] 6 = 4 := by decide +kernel
      have : rb hWeek ((6 : Nat) : Int) - wa hWeek [0, 1] 6 = 4 := by decide +kernel
      omega
    · rw [doneAt_sh (h2 w)]
      have e1 : dby hWeek [0, 1] 6 = 4 := by decide +kernel
      have e2 : rb hWeek ((6 : Nat) : Int) - wa hWeek [0, 1] 6 = 4 := by decide +kernel
      rw [e1, e2]
      rfl
    · rw [doneAt_sh (h2 w)]
      have e1 : dby hWeek [0, 1] 6 = 4 := by decide +kernel
      have e2 : rb hWeek ((6 : Nat) : Int) - wa hWeek [0, 1] 6 = 4 := by decide +kernel
      rw [e1, e2]
      rfl
  refine st_app rfl (tr_and ?_ ?_) (by decide) ?_
  · refine tr_dq (i := wat hWeek [((7 * w : Nat) : Int), ((7 * w : Nat) : Int) + 1] (7 * w + 4)) (fun k hk => ⟨(by simp), hWeek, _, 7 * w + 4, okWeek, c2' hw, by unfold great; omega, rfl, hk⟩) (fun k hk => hk) ?_
    rw [wat_sh (h2 w)]
    decide +kernel
  · refine tr_dq (i := dby hWeek [((7 * w : Nat) : Int), ((7 * w : Nat) : Int) + 1] (7 * w + 6)) (fun k hk => ⟨(by simp), hWeek, _, 7 * w + 6, okWeek, c2' hw, by unfold great; omega, rfl, hk⟩) (fun k hk => hk) ?_
    rw [dby_sh (h2 w)]
    have : dby hWeek [0, 1] 6 = 4 := by decide +kernel
    omega
  refine st_app rfl ?_ (by decide) ?_
  · refine tr_dq (i := ((7 * w + 4 + 3 : Nat) : Int)) (fun k hk => ⟨(by simp), don (R := fun _ _ => False) (m := 4) (a := 4) (k := 3) (c2 hw 4 5 (by decide) (by decide)) (h4 w) (by decide) (by decide +kernel) (by decide +kernel) hk⟩) (fun k hk => hk) (by omega)
  refine st_app rfl ?_ (by decide) ?_
  · refine tr_dq (i := ((7 * w + 4 + 4 : Nat) : Int)) (fun k hk => ⟨(by simp), don (R := fun _ _ => False) (m := 4) (a := 4) (k := 4) (c3 hw) (h3 w) (by decide) (by decide +kernel) (by decide +kernel) hk⟩) (fun k hk => hk) (by omega)
  refine st_app rfl (tr_and ?_ ?_) (by decide) ?_
  · refine tr_dq (i := 5 * w + 7) (fun k hk => ⟨hWeek, ((7 * w + 9 : Nat) : Int), okWeek, by omega, by unfold great; omega, rfl, ?_⟩) (fun k hk => hk) (by omega)
    rw [roundOn_sh]
    have e1 : bo hWeek ((9 : Nat) : Int) > 0 := by decide +kernel
    have e2 : rb hWeek ((9 : Nat) : Int) = 7 := by decide +kernel
    rw [if_pos e1, e2]; exact hk
  · refine tr_isn fun k hk => ⟨hWeek, ((7 * w + 12 : Nat) : Int), okWeek, by omega, by unfold great; omega, rfl, ?_⟩
    rw [roundOn_sh]
    have e1 : ¬ bo hWeek ((12 : Nat) : Int) > 0 := by decide +kernel
    rw [if_neg e1]; exact hk
  refine st_end rfl ?_ (by decide) (fg_self q)
  · refine tr_dq (i := dayBy hWeek ((5 * w + 0 : Nat) : Int)) (fun k hk => ⟨hWeek, ((5 * w + 0 : Nat) : Int), okWeek, by omega, by unfold great; omega, rfl, hk⟩) (fun k hk => hk) ?_
    rw [dayBy_sh]
    have : dayBy hWeek ((0 : Nat) : Int) = 0 := by decide +kernel
    omega
end Dl
namespace Dl
open PySem PySem.Spec PyProof.Rows L2
def top (i : Nat) : Stmt := PySem.Challenge.pw_pushedrounds_k13_known_houses_by_hand.main.body.getD i (.Pass ⟨0, 0, 0, 0⟩)
/-- what the head leaves behind -/
structure Fc (P : Program) (w : World) (K : PySem.W.Frag) (mg : Str → Option Value) (base : Heap) : Prop where
  b_len : mg "len" = none
  b_isinstance : mg "isinstance" = none
  b_int : mg "int" = none
  b_str : mg "str" = none
  b_tuple : mg "tuple" = none
  b_bool : mg "bool" = none
  b_list : mg "list" = none
  b_all : mg "all" = none
  b_any : mg "any" = none
  b_range : mg "range" = none
  b_min : mg "min" = none
  b_max : mg "max" = none
  b_zip : mg "zip" = none
  b_enumerate : mg "enumerate" = none
  b_sorted : mg "sorted" = none
  b_set : mg "set" = none
  b_abs : mg "abs" = none
  b_sum : mg "sum" = none
  c_GREAT : ∃ t, mg "GREAT" = some (.int 1000000000000000000000000000000 t)
  c_FIGURES : ∃ t, mg "FIGURES" = some (.str ("0123456" : Str) t)
  c_WEEK : ∃ t, mg "WEEK" = some (.int 7 t)
  c_MOST_SPEED : ∃ t, mg "MOST_SPEED" = some (.int 3 t)
  c_MOST_HOLIDAYS : ∃ t, mg "MOST_HOLIDAYS" = some (.int 20 t)
  c_MOST_LATE : ∃ t, mg "MOST_LATE" = some (.int 40 t)
  c_LONG_harming : ∃ t, mg "LONG_harming" = some (.int 70000 t)
  c_LONG_latest : ∃ t, mg "LONG_latest" = some (.int 70000 t)
  c_MOST_SEEN : ∃ t, mg "MOST_SEEN" = some (.int 40 t)
  c_SIGNS : ∃ t, mg "SIGNS" = some (.str ("0123." : Str) t)
  g_RoundError : mg "RoundError" = some (.ref (He.ga K "RoundError"))
  x_RoundError : (He.Fa.exc "RoundError").ok K = true
  g_InvalidHouse : mg "InvalidHouse" = some (.ref (He.ga K "InvalidHouse"))
  x_InvalidHouse : (He.Fa.exc "InvalidHouse").ok K = true
  g_InvalidCalendar : mg "InvalidCalendar" = some (.ref (He.ga K "InvalidCalendar"))
  x_InvalidCalendar : (He.Fa.exc "InvalidCalendar").ok K = true
  g_InvalidDay : mg "InvalidDay" = some (.ref (He.ga K "InvalidDay"))
  x_InvalidDay : (He.Fa.exc "InvalidDay").ok K = true
  g_InvalidNumber : mg "InvalidNumber" = some (.ref (He.ga K "InvalidNumber"))
  x_InvalidNumber : (He.Fa.exc "InvalidNumber").ok K = true
  g_InvalidWeekdays : mg "InvalidWeekdays" = some (.ref (He.ga K "InvalidWeekdays"))
  x_InvalidWeekdays : (He.Fa.exc "InvalidWeekdays").ok K = true
  g_InvalidSeen : mg "InvalidSeen" = some (.ref (He.ga K "InvalidSeen"))
  x_InvalidSeen : (He.Fa.exc "InvalidSeen").ok K = true
  g_InvalidText : mg "InvalidText" = some (.ref (He.ga K "InvalidText"))
  x_InvalidText : (He.Fa.exc "InvalidText").ok K = true
  g_Unlike : mg "Unlike" = some (.ref (He.ga K "Unlike"))
  x_Unlike : (He.Fa.exc "Unlike").ok K = true
  g_law_can : mg "_law_can" = some (.ref (He.ga K "_law_can"))
  f_law_can : ∃ fd, FunD K "_law_can" "_law_can" (defArgs (top 75)) (defBody (top 75)) (defScope (top 75)) [] [] (He.ga K "_law_can") fd
  g_law_lift : mg "_law_lift" = some (.ref (He.ga K "_law_lift"))
  f_law_lift : ∃ fd, FunD K "_law_lift" "_law_lift" (defArgs (top 76)) (defBody (top 76)) (defScope (top 76)) [] [] (He.ga K "_law_lift") fd
  g_is_integer : mg "is_integer" = some (.ref (He.ga K "is_integer"))
  f_is_integer : ∃ fd, FunD K "is_integer" "is_integer" (defArgs (top 16)) (defBody (top 16)) (defScope (top 16)) [] [] (He.ga K "is_integer") fd
  g_are_weekdays : mg "are_weekdays" = some (.ref (He.ga K "are_weekdays"))
  f_are_weekdays : ∃ fd, FunD K "are_weekdays" "are_weekdays" (defArgs (top 17)) (defBody (top 17)) (defScope (top 17)) [] [] (He.ga K "are_weekdays") fd
  g_is_house : mg "is_house" = some (.ref (He.ga K "is_house"))
  f_is_house : ∃ fd, FunD K "is_house" "is_house" (defArgs (top 18)) (defBody (top 18)) (defScope (top 18)) [] [] (He.ga K "is_house") fd
  g_need_house : mg "need_house" = some (.ref (He.ga K "need_house"))
  f_need_house : ∃ fd, FunD K "need_house" "need_house" (defArgs (top 20)) (defBody (top 20)) (defScope (top 20)) [] [] (He.ga K "need_house") fd
  g_is_calendar : mg "is_calendar" = some (.ref (He.ga K "is_calendar"))
  f_is_calendar : ∃ fd, FunD K "is_calendar" "is_calendar" (defArgs (top 19)) (defBody (top 19)) (defScope (top 19)) [] [] (He.ga K "is_calendar") fd
  g_need_calendar : mg "need_calendar" = some (.ref (He.ga K "need_calendar"))
  f_need_calendar : ∃ fd, FunD K "need_calendar" "need_calendar" (defArgs (top 21)) (defBody (top 21)) (defScope (top 21)) [] [] (He.ga K "need_calendar") fd
  g_need_number : mg "need_number" = some (.ref (He.ga K "need_number"))
  f_need_number : ∃ fd, FunD K "need_number" "need_number" (defArgs (top 23)) (defBody (top 23)) (defScope (top 23)) [] [] (He.ga K "need_number") fd
  g_day_by : mg "day_by" = some (.ref (He.ga K "day_by"))
  f_day_by : ∃ fd, FunD K "day_by" "day_by" (defArgs (top 27)) (defBody (top 27)) (defScope (top 27)) [] [] (He.ga K "day_by") fd
  g_figure_of : mg "figure_of" = some (.ref (He.ga K "figure_of"))
  f_figure_of : ∃ fd, FunD K "figure_of" "figure_of" (defArgs (top 25)) (defBody (top 25)) (defScope (top 25)) [] [] (He.ga K "figure_of") fd
  g_begins_on : mg "begins_on" = some (.ref (He.ga K "begins_on"))
  f_begins_on : ∃ fd, FunD K "begins_on" "begins_on" (defArgs (top 28)) (defBody (top 28)) (defScope (top 28)) [] [] (He.ga K "begins_on") fd
  g_most_done : mg "most_done" = some (.ref (He.ga K "most_done"))
  f_most_done : ∃ fd, FunD K "most_done" "most_done" (defArgs (top 29)) (defBody (top 29)) (defScope (top 29)) [] [] (He.ga K "most_done") fd
  g_waits_behind : mg "waits_behind" = some (.ref (He.ga K "waits_behind"))
  f_waits_behind : ∃ fd, FunD K "waits_behind" "waits_behind" (defArgs (top 30)) (defBody (top 30)) (defScope (top 30)) [] [] (He.ga K "waits_behind") fd
  g_week_behind : mg "week_behind" = some (.ref (He.ga K "week_behind"))
  f_week_behind : ∃ fd, FunD K "week_behind" "week_behind" (defArgs (top 51)) (defBody (top 51)) (defScope (top 51)) [] [] (He.ga K "week_behind") fd
  g_waits_ahead : mg "waits_ahead" = some (.ref (He.ga K "waits_ahead"))
  f_waits_ahead : ∃ fd, FunD K "waits_ahead" "waits_ahead" (defArgs (top 52)) (defBody (top 52)) (defScope (top 52)) [] [] (He.ga K "waits_ahead") fd
  g_done_on_by : mg "done_on_by" = some (.ref (He.ga K "done_on_by"))
  f_done_on_by : ∃ fd, FunD K "done_on_by" "done_on_by" (defArgs (top 55)) (defBody (top 55)) (defScope (top 55)) [] [] (He.ga K "done_on_by") fd
  g_done_on : mg "done_on" = some (.ref (He.ga K "done_on"))
  f_done_on : ∃ fd, FunD K "done_on" "done_on" (defArgs (top 56)) (defBody (top 56)) (defScope (top 56)) [] [] (He.ga K "done_on") fd
  g_need_day : mg "need_day" = some (.ref (He.ga K "need_day"))
  f_need_day : ∃ fd, FunD K "need_day" "need_day" (defArgs (top 22)) (defBody (top 22)) (defScope (top 22)) [] [] (He.ga K "need_day") fd
  g_rounds_before : mg "rounds_before" = some (.ref (He.ga K "rounds_before"))
  f_rounds_before : ∃ fd, FunD K "rounds_before" "rounds_before" (defArgs (top 26)) (defBody (top 26)) (defScope (top 26)) [] [] (He.ga K "rounds_before") fd
  g_waits_at : mg "waits_at" = some (.ref (He.ga K "waits_at"))
  f_waits_at : ∃ fd, FunD K "waits_at" "waits_at" (defArgs (top 53)) (defBody (top 53)) (defScope (top 53)) [] [] (He.ga K "waits_at") fd
  g_done_by : mg "done_by" = some (.ref (He.ga K "done_by"))
  f_done_by : ∃ fd, FunD K "done_by" "done_by" (defArgs (top 54)) (defBody (top 54)) (defScope (top 54)) [] [] (He.ga K "done_by") fd
  g_done_at : mg "done_at" = some (.ref (He.ga K "done_at"))
  f_done_at : ∃ fd, FunD K "done_at" "done_at" (defArgs (top 59)) (defBody (top 59)) (defScope (top 59)) [] [] (He.ga K "done_at") fd
  g_waiting : mg "waiting" = some (.ref (He.ga K "waiting"))
  f_waiting : ∃ fd, FunD K "waiting" "waiting" (defArgs (top 58)) (defBody (top 58)) (defScope (top 58)) [] [] (He.ga K "waiting") fd
  g_done_upto : mg "done_upto" = some (.ref (He.ga K "done_upto"))
  f_done_upto : ∃ fd, FunD K "done_upto" "done_upto" (defArgs (top 57)) (defBody (top 57)) (defScope (top 57)) [] [] (He.ga K "done_upto") fd
  g_round_on : mg "round_on" = some (.ref (He.ga K "round_on"))
  f_round_on : ∃ fd, FunD K "round_on" "round_on" (defArgs (top 31)) (defBody (top 31)) (defScope (top 31)) [] [] (He.ga K "round_on") fd
  g_day_of : mg "day_of" = some (.ref (He.ga K "day_of"))
  f_day_of : ∃ fd, FunD K "day_of" "day_of" (defArgs (top 32)) (defBody (top 32)) (defScope (top 32)) [] [] (He.ga K "day_of") fd
  g_law_week : mg "_law_week" = some (.ref (He.ga K "_law_week"))
  f_law_week : ∃ fd, FunD K "_law_week" "_law_week" (defArgs (top 78)) (defBody (top 78)) (defScope (top 78)) [] [] (He.ga K "_law_week") fd
  g_need_kind : mg "need_kind" = some (.ref (He.ga K "need_kind"))
  f_need_kind : ∃ fd, FunD K "need_kind" "need_kind" (defArgs (top 24)) (defBody (top 24)) (defScope (top 24)) [] [] (He.ga K "need_kind") fd
  g_grows : mg "grows" = some (.ref (He.ga K "grows"))
  f_grows : ∃ fd, FunD K "grows" "grows" (defArgs (top 44)) (defBody (top 44)) (defScope (top 44)) [] [] (He.ga K "grows") fd
  g_late_by : mg "late_by" = some (.ref (He.ga K "late_by"))
  f_late_by : ∃ fd, FunD K "late_by" "late_by" (defArgs (top 45)) (defBody (top 45)) (defScope (top 45)) [] [] (He.ga K "late_by") fd
  g_next_stands : mg "next_stands" = some (.ref (He.ga K "next_stands"))
  f_next_stands : ∃ fd, FunD K "next_stands" "next_stands" (defArgs (top 46)) (defBody (top 46)) (defScope (top 46)) [] [] (He.ga K "next_stands") fd
  g_greatest_by : mg "greatest_by" = some (.ref (He.ga K "greatest_by"))
  f_greatest_by : ∃ fd, FunD K "greatest_by" "greatest_by" (defArgs (top 47)) (defBody (top 47)) (defScope (top 47)) [] [] (He.ga K "greatest_by") fd
  g_latest : mg "latest" = some (.ref (He.ga K "latest"))
  f_latest : ∃ fd, FunD K "latest" "latest" (defArgs (top 48)) (defBody (top 48)) (defScope (top 48)) [] [] (He.ga K "latest") fd
  g_most_waiting : mg "most_waiting" = some (.ref (He.ga K "most_waiting"))
  f_most_waiting : ∃ fd, FunD K "most_waiting" "most_waiting" (defArgs (top 49)) (defBody (top 49)) (defScope (top 49)) [] [] (He.ga K "most_waiting") fd
  g_all_quiet : mg "all_quiet" = some (.ref (He.ga K "all_quiet"))
  f_all_quiet : ∃ fd, FunD K "all_quiet" "all_quiet" (defArgs (top 37)) (defBody (top 37)) (defScope (top 37)) [] [] (He.ga K "all_quiet") fd
  g_is_late : mg "is_late" = some (.ref (He.ga K "is_late"))
  f_is_late : ∃ fd, FunD K "is_late" "is_late" (defArgs (top 36)) (defBody (top 36)) (defScope (top 36)) [] [] (He.ga K "is_late") fd
  g_has_late : mg "has_late" = some (.ref (He.ga K "has_late"))
  f_has_late : ∃ fd, FunD K "has_late" "has_late" (defArgs (top 38)) (defBody (top 38)) (defScope (top 38)) [] [] (He.ga K "has_late") fd
  g_fewest_by : mg "fewest_by" = some (.ref (He.ga K "fewest_by"))
  f_fewest_by : ∃ fd, FunD K "fewest_by" "fewest_by" (defArgs (top 39)) (defBody (top 39)) (defScope (top 39)) [] [] (He.ga K "fewest_by") fd
  g_fewest : mg "fewest" = some (.ref (He.ga K "fewest"))
  f_fewest : ∃ fd, FunD K "fewest" "fewest" (defArgs (top 40)) (defBody (top 40)) (defScope (top 40)) [] [] (He.ga K "fewest") fd
  g_never_slower : mg "never_slower" = some (.ref (He.ga K "never_slower"))
  f_never_slower : ∃ fd, FunD K "never_slower" "never_slower" (defArgs (top 41)) (defBody (top 41)) (defScope (top 41)) [] [] (He.ga K "never_slower") fd
  g_law_kinds : mg "_law_kinds" = some (.ref (He.ga K "_law_kinds"))
  f_law_kinds : ∃ fd, FunD K "_law_kinds" "_law_kinds" (defArgs (top 79)) (defBody (top 79)) (defScope (top 79)) [] [] (He.ga K "_law_kinds") fd
  g_is_seen : mg "is_seen" = some (.ref (He.ga K "is_seen"))
  f_is_seen : ∃ fd, FunD K "is_seen" "is_seen" (defArgs (top 63)) (defBody (top 63)) (defScope (top 63)) [] [] (He.ga K "is_seen") fd
  g_all_runs : mg "all_runs" = some (.ref (He.ga K "all_runs"))
  f_all_runs : ∃ fd, FunD K "all_runs" "all_runs" (defArgs (top 66)) (defBody (top 66)) (defScope (top 66)) [] [] (He.ga K "all_runs") fd
  g_counts_of : mg "counts_of" = some (.ref (He.ga K "counts_of"))
  f_counts_of : ∃ fd, FunD K "counts_of" "counts_of" (defArgs (top 64)) (defBody (top 64)) (defScope (top 64)) [] [] (He.ga K "counts_of") fd
  g_goes_with : mg "goes_with" = some (.ref (He.ga K "goes_with"))
  f_goes_with : ∃ fd, FunD K "goes_with" "goes_with" (defArgs (top 65)) (defBody (top 65)) (defScope (top 65)) [] [] (He.ga K "goes_with") fd
  g_houses_for : mg "houses_for" = some (.ref (He.ga K "houses_for"))
  f_houses_for : ∃ fd, FunD K "houses_for" "houses_for" (defArgs (top 67)) (defBody (top 67)) (defScope (top 67)) [] [] (He.ga K "houses_for") fd
  g_untrue : mg "untrue" = some (.ref (He.ga K "untrue"))
  f_untrue : ∃ fd, FunD K "untrue" "untrue" (defArgs (top 68)) (defBody (top 68)) (defScope (top 68)) [] [] (He.ga K "untrue") fd
  g_text_of : mg "text_of" = some (.ref (He.ga K "text_of"))
  f_text_of : ∃ fd, FunD K "text_of" "text_of" (defArgs (top 70)) (defBody (top 70)) (defScope (top 70)) [] [] (He.ga K "text_of") fd
  g_house_text : mg "house_text" = some (.ref (He.ga K "house_text"))
  f_house_text : ∃ fd, FunD K "house_text" "house_text" (defArgs (top 71)) (defBody (top 71)) (defScope (top 71)) [] [] (He.ga K "house_text") fd
  g_house_in : mg "house_in" = some (.ref (He.ga K "house_in"))
  f_house_in : ∃ fd, FunD K "house_in" "house_in" (defArgs (top 72)) (defBody (top 72)) (defScope (top 72)) [] [] (He.ga K "house_in") fd
  g_read_house : mg "read_house" = some (.ref (He.ga K "read_house"))
  f_read_house : ∃ fd, FunD K "read_house" "read_house" (defArgs (top 73)) (defBody (top 73)) (defScope (top 73)) [] [] (He.ga K "read_house") fd
  g_law_told : mg "_law_told" = some (.ref (He.ga K "_law_told"))
  f_law_told : ∃ fd, FunD K "_law_told" "_law_told" (defArgs (top 80)) (defBody (top 80)) (defScope (top 80)) [] [] (He.ga K "_law_told") fd
  g_law : mg "law" = some (.ref (He.ga K "law"))
  f_law : ∃ fd, FunD K "law" "law" (defArgs (top 81)) (defBody (top 81)) (defScope (top 81)) [] [] (He.ga K "law") fd
theorem sc_law_can : FnScope ["script", "k", "cell"] ["script", "k"] (defScope (top 75)) := ⟨rfl, rfl, rfl, by decide +kernel, rfl, by decide +kernel, by decide +kernel⟩
theorem dv_law_can {P : Program} {w : World} {K : PySem.W.Frag} {mg : Str → Option Value} {base : Heap} (C : Fc P w K mg base)  (f : Addr) (cdv : Value) (A : Around) (outer : List PySem.Env) (s : Shared) (H : Hp) (E : XK) (hr : Room 1 (A.deeper (envOfC "_law_can" (defScope (top 75)) s.heap.objs.size f cdv))) :
    DSs (cxOf (L2.CX P w) P w K mg base ["script", "k", "cell"] "_law_can" (defScope (top 75)) f cdv A outer s H E) (WD E) (defBody (top 75)) t_law_can := by
  have nd := (sc_law_can).nd
  have tk : Takes (cxOf (L2.CX P w) P w K mg base ["script", "k", "cell"] "_law_can" (defScope (top 75)) f cdv A outer s H E) (WD E) := takes_of rfl rfl rfl rfl
  have hp : PassesOwn (model P w) (A.deeper (envOfC "_law_can" (defScope (top 75)) s.heap.objs.size f cdv)) (cxOf (L2.CX P w) P w K mg base ["script", "k", "cell"] "_law_can" (defScope (top 75)) f cdv A outer s H E).env (cxOf (L2.CX P w) P w K mg base ["script", "k", "cell"] "_law_can" (defScope (top 75)) f cdv A outer s H E).xe := passes_of rfl
  exact ds_cons (ds_set 2 nd (de_ifE (dt_cmp or_lt od_lt (de_var 1) (de_b call_len cd_len C.b_len (da_cons (de_var 0) (da_nil))) (by rfl)) (de_b call_abs cd_abs C.b_abs (da_cons (de_ty cr_int cd_int C.b_int (da_cons (de_ix hr.u1 (de_var 0) (de_var 1)) (da_nil))) (da_nil))) (de_bin or_add od_add (de_bin or_mul od_mul (de_int) (de_var 1)) (de_int)))) (ds_one (ds_ret (de_newCan (da_cons (de_ifE (dt_cmp op_ge od_ge (de_var 2) (de_bin op_pow od_pow (de_int) (de_int)) (by rfl)) (de_var 2) (de_int)) (da_cons (de_bin or_add od_add (de_bin op_mod od_mod (de_ty cr_int cd_int C.b_int (da_cons (de_bin or_add od_add (de_bin or_add od_add (de_bin or_mul od_mul (de_var 2) (de_int)) (de_bin or_mul od_mul (de_int) (de_var 1))) (de_int)) (da_nil))) (de_int)) (de_int)) (da_nil))))))
theorem ln_law_can : ∀ ds M Q R, S_law_can ds M Q R → ds.length = 2 := by
  rintro ds M Q R ⟨_, _, _, rfl, _⟩
  rfl
theorem hs_law_can {P : Program} {w : World} {K : PySem.W.Frag} {mg : Str → Option Value} {base : Heap} (C : Fc P w K mg base)  : Has P w K mg base "_law_can" 2 ["script", "k"] S_law_can :=
  has_of C.f_law_can sc_law_can C.g_law_can (fun F => FunD.bindsN F fun _ _ _ _ _ _ us hl => match us, hl with | [_, _], _ => rfl) ln_law_can (fun f cdv A outer s H E hr => dv_law_can C  f cdv A outer s H E hr) kp_law_can
theorem sc_law_lift : FnScope ["can", "wide", "part", "far"] ["can", "wide"] (defScope (top 76)) := ⟨rfl, rfl, rfl, by decide +kernel, rfl, by decide +kernel, by decide +kernel⟩
theorem dv_law_lift {P : Program} {w : World} {K : PySem.W.Frag} {mg : Str → Option Value} {base : Heap} (C : Fc P w K mg base)  (f : Addr) (cdv : Value) (A : Around) (outer : List PySem.Env) (s : Shared) (H : Hp) (E : XK) (hr : Room 1 (A.deeper (envOfC "_law_lift" (defScope (top 76)) s.heap.objs.size f cdv))) :
    DSs (cxOf (L2.CX P w) P w K mg base ["can", "wide", "part", "far"] "_law_lift" (defScope (top 76)) f cdv A outer s H E) (WD E) (defBody (top 76)) t_law_lift := by
  have nd := (sc_law_lift).nd
  have tk : Takes (cxOf (L2.CX P w) P w K mg base ["can", "wide", "part", "far"] "_law_lift" (defScope (top 76)) f cdv A outer s H E) (WD E) := takes_of rfl rfl rfl rfl
  have hp : PassesOwn (model P w) (A.deeper (envOfC "_law_lift" (defScope (top 76)) s.heap.objs.size f cdv)) (cxOf (L2.CX P w) P w K mg base ["can", "wide", "part", "far"] "_law_lift" (defScope (top 76)) f cdv A outer s H E).env (cxOf (L2.CX P w) P w K mg base ["can", "wide", "part", "far"] "_law_lift" (defScope (top 76)) f cdv A outer s H E).xe := passes_of rfl
  exact ds_cons (ds_if (dt_cmp op_gt od_gt (de_ix hr.u1 (de_var 0) (de_int)) (de_int) (by rfl)) (ds_cons (ds_set 2 nd (de_bin op_mod od_mod (de_ty cr_int cd_int C.b_int (da_cons (de_ix hr.u1 (de_var 0) (de_int)) (da_nil))) (de_var 1))) (ds_cons (ds_put hr.u1 (de_var 0) (de_int) (de_bin op_fdivW od_div (de_ix hr.u1 (de_var 0) (de_int)) (de_var 1))) (ds_one (ds_ret (de_var 2))))) (ds_nil)) (ds_cons (ds_put hr.u1 (de_var 0) (de_int) (de_bin op_mod od_mod (de_ty cr_int cd_int C.b_int (da_cons (de_bin or_add od_add (de_bin or_mul od_mul (de_ix hr.u1 (de_var 0) (de_int)) (de_int)) (de_int)) (da_nil))) (de_int))) (ds_cons (ds_set 3 nd (de_bin op_mod od_mod (de_ty cr_int cd_int C.b_int (da_cons (de_bin or_mul od_mul (de_ix hr.u1 (de_var 0) (de_int)) (de_bin or_add od_add (de_bin op_fdivW od_div (de_ix hr.u1 (de_var 0) (de_int)) (de_int)) (de_int))) (da_nil))) (de_int))) (ds_one (ds_ret (de_bin op_mod od_mod (de_ty cr_int cd_int C.b_int (da_cons (de_bin op_fdivW od_div (de_var 3) (de_int)) (da_nil))) (de_var 1))))))
theorem ln_law_lift : ∀ ds M Q R, S_law_lift ds M Q R → ds.length = 2 := by
  rintro ds M Q R ⟨_, _, _, _, _, rfl, _⟩
  rfl
theorem hs_law_lift {P : Program} {w : World} {K : PySem.W.Frag} {mg : Str → Option Value} {base : Heap} (C : Fc P w K mg base)  : Has P w K mg base "_law_lift" 2 ["can", "wide"] S_law_lift :=
  has_of C.f_law_lift sc_law_lift C.g_law_lift (fun F => FunD.bindsN F fun _ _ _ _ _ _ us hl => match us, hl with | [_, _], _ => rfl) ln_law_lift (fun f cdv A outer s H E hr => dv_law_lift C  f cdv A outer s H E hr) kp_law_lift
theorem sc_is_integer : FnScope ["value", "low", "high"] ["value", "low", "high"] (defScope (top 16)) := ⟨rfl, rfl, rfl, by decide +kernel, rfl, by decide +kernel, by decide +kernel⟩
theorem dv_is_integer {P : Program} {w : World} {K : PySem.W.Frag} {mg : Str → Option Value} {base : Heap} (C : Fc P w K mg base)  (f : Addr) (cdv : Value) (A : Around) (outer : List PySem.Env) (s : Shared) (H : Hp) (E : XK) (hr : Room 1 (A.deeper (envOfC "is_integer" (defScope (top 16)) s.heap.objs.size f cdv))) :
    DSs (cxOf (L2.CX P w) P w K mg base ["value", "low", "high"] "is_integer" (defScope (top 16)) f cdv A outer s H E) (WD E) (defBody (top 16)) t_is_integer := by
  have nd := (sc_is_integer).nd
  have tk : Takes (cxOf (L2.CX P w) P w K mg base ["value", "low", "high"] "is_integer" (defScope (top 16)) f cdv A outer s H E) (WD E) := takes_of rfl rfl rfl rfl
  have hp : PassesOwn (model P w) (A.deeper (envOfC "is_integer" (defScope (top 16)) s.heap.objs.size f cdv)) (cxOf (L2.CX P w) P w K mg base ["value", "low", "high"] "is_integer" (defScope (top 16)) f cdv A outer s H E).env (cxOf (L2.CX P w) P w K mg base ["value", "low", "high"] "is_integer" (defScope (top 16)) f cdv A outer s H E).xe := passes_of rfl
  exact ds_one (ds_ret (de_and (de_isi isty_int (by decide +kernel) (de_var 0) C.b_isinstance C.b_int) (de_and (de_not (de_isi isty_bool (by decide +kernel) (de_var 0) C.b_isinstance C.b_bool)) (de_and1 (de_chain or_le or_le od_le od_le (de_var 1) (de_var 0) (de_var 2))))))
theorem ln_is_integer : ∀ ds M Q R, S_is_integer ds M Q R → ds.length = 3 := by
  rintro ds M Q R ⟨_, _, _, _, rfl, _⟩
  rfl
theorem hs_is_integer {P : Program} {w : World} {K : PySem.W.Frag} {mg : Str → Option Value} {base : Heap} (C : Fc P w K mg base)  : Has P w K mg base "is_integer" 2 ["value", "low", "high"] S_is_integer :=
  has_of C.f_is_integer sc_is_integer C.g_is_integer (fun F => FunD.bindsN F fun _ _ _ _ _ _ us hl => match us, hl with | [_, _, _], _ => rfl) ln_is_integer (fun f cdv A outer s H E hr => dv_is_integer C  f cdv A outer s H E hr) kp_is_integer
theorem sc_are_weekdays : FnScope ["value", "figure", "sooner", "later"] ["value"] (defScope (top 17)) := ⟨rfl, rfl, rfl, by decide +kernel, rfl, by decide +kernel, by decide +kernel⟩
theorem dv_are_weekdays {P : Program} {w : World} {K : PySem.W.Frag} {mg : Str → Option Value} {base : Heap} (C : Fc P w K mg base)  (f : Addr) (cdv : Value) (A : Around) (outer : List PySem.Env) (s : Shared) (H : Hp) (E : XK) (hr : Room 1 (A.deeper (envOfC "are_weekdays" (defScope (top 17)) s.heap.objs.size f cdv))) :
    DSs (cxOf (L2.CX P w) P w K mg base ["value", "figure", "sooner", "later"] "are_weekdays" (defScope (top 17)) f cdv A outer s H E) (WD E) (defBody (top 17)) t_are_weekdays := by
  have nd := (sc_are_weekdays).nd
  have tk : Takes (cxOf (L2.CX P w) P w K mg base ["value", "figure", "sooner", "later"] "are_weekdays" (defScope (top 17)) f cdv A outer s H E) (WD E) := takes_of rfl rfl rfl rfl
  have hp : PassesOwn (model P w) (A.deeper (envOfC "are_weekdays" (defScope (top 17)) s.heap.objs.size f cdv)) (cxOf (L2.CX P w) P w K mg base ["value", "figure", "sooner", "later"] "are_weekdays" (defScope (top 17)) f cdv A outer s H E).env (cxOf (L2.CX P w) P w K mg base ["value", "figure", "sooner", "later"] "are_weekdays" (defScope (top 17)) f cdv A outer s H E).xe := passes_of rfl
  exact ds_cons (ds_if ((dw_or (dt_not (dt_val (de_isi isty_str (by decide +kernel) (de_var 0) C.b_isinstance C.b_str))) (dw_or1 (dt_not (dt_val (de_b (cr_all rfl) cd_all C.b_all (da_cons (de_lc rfl nd (di_str (de_var 0)) (blkOk_by (own := [("figure", 1)]) rfl) (by decide) (fun s H C0 cl fp => dg_name 1 nd) (fun s H C0 cl fp => dts_nil) (fun s H C0 cl fp => de_cmp (or_in hr.u65) od_in (de_var 1) (de_gstr C.c_FIGURES) (by rfl))) (da_nil))))))).pt) (ds_one (ds_ret (de_bl))) (ds_nil)) (ds_one (ds_ret (de_b (cr_all rfl) cd_all C.b_all (da_cons (de_lc rfl nd (di_zip C.b_zip (de_var 0) (de_sl (de_var 0) (do_some (de_int)) (do_none))) (blkOk_by (own := [("sooner", 2), ("later", 3)]) rfl) (by decide) (fun s H C0 cl fp => dg_tup rfl (goes_cons (goes_name 2) (goes_cons (goes_name 3) (goes_nil))) (dgs_cons (dg_name 2 nd) (dgs_cons (dg_name 3 nd) (dgs_nil)))) (fun s H C0 cl fp => dts_nil) (fun s H C0 cl fp => de_cmp or_lt od_lt (de_var 2) (de_var 3) (by rfl))) (da_nil)))))
theorem ln_are_weekdays : ∀ ds M Q R, S_are_weekdays ds M Q R → ds.length = 1 := by
  rintro ds M Q R ⟨_, _, rfl, _⟩
  rfl
theorem hs_are_weekdays {P : Program} {w : World} {K : PySem.W.Frag} {mg : Str → Option Value} {base : Heap} (C : Fc P w K mg base)  : Has P w K mg base "are_weekdays" 2 ["value"] S_are_weekdays :=
  has_of C.f_are_weekdays sc_are_weekdays C.g_are_weekdays (fun F => FunD.bindsN F fun _ _ _ _ _ _ us hl => match us, hl with | [_], _ => rfl) ln_are_weekdays (fun f cdv A outer s H E hr => dv_are_weekdays C  f cdv A outer s H E hr) kp_are_weekdays
theorem sc_is_house : FnScope ["value"] ["value"] (defScope (top 18)) := ⟨rfl, rfl, rfl, by decide +kernel, rfl, by decide +kernel, by decide +kernel⟩
theorem dv_is_house {P : Program} {w : World} {K : PySem.W.Frag} {mg : Str → Option Value} {base : Heap} (C : Fc P w K mg base) (h_is_integer : Has P w K mg base "is_integer" 2 ["value", "low", "high"] S_is_integer) (h_are_weekdays : Has P w K mg base "are_weekdays" 2 ["value"] S_are_weekdays) (f : Addr) (cdv : Value) (A : Around) (outer : List PySem.Env) (s : Shared) (H : Hp) (E : XK) (hr : Room 2 (A.deeper (envOfC "is_house" (defScope (top 18)) s.heap.objs.size f cdv))) :
    DSs (cxOf (L2.CX P w) P w K mg base ["value"] "is_house" (defScope (top 18)) f cdv A outer s H E) (WD E) (defBody (top 18)) t_is_house := by
  have nd := (sc_is_house).nd
  have tk : Takes (cxOf (L2.CX P w) P w K mg base ["value"] "is_house" (defScope (top 18)) f cdv A outer s H E) (WD E) := takes_of rfl rfl rfl rfl
  have hp : PassesOwn (model P w) (A.deeper (envOfC "is_house" (defScope (top 18)) s.heap.objs.size f cdv)) (cxOf (L2.CX P w) P w K mg base ["value"] "is_house" (defScope (top 18)) f cdv A outer s H E).env (cxOf (L2.CX P w) P w K mg base ["value"] "is_house" (defScope (top 18)) f cdv A outer s H E).xe := passes_of rfl
  exact ds_cons (ds_if ((dw_or (dt_not (dt_val (de_isi isty_tup (by decide +kernel) (de_var 0) C.b_isinstance C.b_tuple))) (dw_or (dt_cmp (op_neD hr.u64) od_ne (de_b call_len cd_len C.b_len (da_cons (de_var 0) (da_nil))) (de_int) (by rfl)) (dw_or1 (dt_not (dt_val (de_callH h_is_integer hr (by decide) tk (da_cons (de_ix hr.u1 (de_var 0) (de_int)) (da_cons (de_int) (da_cons (de_gint C.c_MOST_SPEED) (da_nil)))))))))).pt) (ds_one (ds_ret (de_bl))) (ds_nil)) (ds_cons (ds_if ((dw_or (dt_not (dt_val (de_callH h_are_weekdays hr (by decide) tk (da_cons (de_ix hr.u1 (de_var 0) (de_int)) (da_nil))))) (dw_or (dt_not (dt_val (de_callH h_are_weekdays hr (by decide) tk (da_cons (de_ix hr.u1 (de_var 0) (de_int)) (da_nil))))) (dw_or (dt_cmp (op_eqD hr.u64) od_eq (de_ix hr.u1 (de_var 0) (de_int)) (de_str) (by rfl)) (dw_or1 (dt_cmp (op_eqD hr.u64) od_eq (de_ix hr.u1 (de_var 0) (de_int)) (de_str) (by rfl)))))).pt) (ds_one (ds_ret (de_bl))) (ds_nil)) (ds_one (ds_ret (de_cmp or_le od_le (de_b call_len cd_len C.b_len (da_cons (de_ix hr.u1 (de_var 0) (de_int)) (da_nil))) (de_bin or_mul od_mul (de_ix hr.u1 (de_var 0) (de_int)) (de_b call_len cd_len C.b_len (da_cons (de_ix hr.u1 (de_var 0) (de_int)) (da_nil)))) (by rfl)))))
theorem ln_is_house : ∀ ds M Q R, S_is_house ds M Q R → ds.length = 1 := by
  rintro ds M Q R ⟨_, _, rfl, _⟩
  rfl
theorem hs_is_house {P : Program} {w : World} {K : PySem.W.Frag} {mg : Str → Option Value} {base : Heap} (C : Fc P w K mg base) (h_is_integer : Has P w K mg base "is_integer" 2 ["value", "low", "high"] S_is_integer) (h_are_weekdays : Has P w K mg base "are_weekdays" 2 ["value"] S_are_weekdays) : Has P w K mg base "is_house" 3 ["value"] S_is_house :=
  has_of C.f_is_house sc_is_house C.g_is_house (fun F => FunD.bindsN F fun _ _ _ _ _ _ us hl => match us, hl with | [_], _ => rfl) ln_is_house (fun f cdv A outer s H E hr => dv_is_house C h_is_integer h_are_weekdays f cdv A outer s H E hr) kp_is_house
theorem sc_need_house : FnScope ["value"] ["value"] (defScope (top 20)) := ⟨rfl, rfl, rfl, by decide +kernel, rfl, by decide +kernel, by decide +kernel⟩
theorem dv_need_house {P : Program} {w : World} {K : PySem.W.Frag} {mg : Str → Option Value} {base : Heap} (C : Fc P w K mg base) (h_is_house : Has P w K mg base "is_house" 3 ["value"] S_is_house) (f : Addr) (cdv : Value) (A : Around) (outer : List PySem.Env) (s : Shared) (H : Hp) (E : XK) (hr : Room 3 (A.deeper (envOfC "need_house" (defScope (top 20)) s.heap.objs.size f cdv))) :
    DSs (cxOf (L2.CX P w) P w K mg base ["value"] "need_house" (defScope (top 20)) f cdv A outer s H E) (WD E) (defBody (top 20)) t_need_house := by
  have nd := (sc_need_house).nd
  have tk : Takes (cxOf (L2.CX P w) P w K mg base ["value"] "need_house" (defScope (top 20)) f cdv A outer s H E) (WD E) := takes_of rfl rfl rfl rfl
  have hp : PassesOwn (model P w) (A.deeper (envOfC "need_house" (defScope (top 20)) s.heap.objs.size f cdv)) (cxOf (L2.CX P w) P w K mg base ["value"] "need_house" (defScope (top 20)) f cdv A outer s H E).env (cxOf (L2.CX P w) P w K mg base ["value"] "need_house" (defScope (top 20)) f cdv A outer s H E).xe := passes_of rfl
  exact ds_one (ds_if (dt_not (dt_val (de_callH h_is_house hr (by decide) tk (da_cons (de_var 0) (da_nil))))) (ds_one (ds_raiseH rfl tk C.g_InvalidHouse C.x_InvalidHouse)) (ds_nil))
theorem ln_need_house : ∀ ds M Q R, S_need_house ds M Q R → ds.length = 1 := by
  rintro ds M Q R ⟨_, _, rfl, _⟩
  rfl
theorem hs_need_house {P : Program} {w : World} {K : PySem.W.Frag} {mg : Str → Option Value} {base : Heap} (C : Fc P w K mg base) (h_is_house : Has P w K mg base "is_house" 3 ["value"] S_is_house) : Has P w K mg base "need_house" 4 ["value"] S_need_house :=
  has_of C.f_need_house sc_need_house C.g_need_house (fun F => FunD.bindsN F fun _ _ _ _ _ _ us hl => match us, hl with | [_], _ => rfl) ln_need_house (fun f cdv A outer s H E hr => dv_need_house C h_is_house f cdv A outer s H E hr) kp_need_house
theorem sc_is_calendar : FnScope ["value", "day", "sooner", "later"] ["value"] (defScope (top 19)) := ⟨rfl, rfl, rfl, by decide +kernel, rfl, by decide +kernel, by decide +kernel⟩
theorem dv_is_calendar {P : Program} {w : World} {K : PySem.W.Frag} {mg : Str → Option Value} {base : Heap} (C : Fc P w K mg base) (h_is_integer : Has P w K mg base "is_integer" 2 ["value", "low", "high"] S_is_integer) (f : Addr) (cdv : Value) (A : Around) (outer : List PySem.Env) (s : Shared) (H : Hp) (E : XK) (hr : Room 2 (A.deeper (envOfC "is_calendar" (defScope (top 19)) s.heap.objs.size f cdv))) :
    DSs (cxOf (L2.CX P w) P w K mg base ["value", "day", "sooner", "later"] "is_calendar" (defScope (top 19)) f cdv A outer s H E) (WD E) (defBody (top 19)) t_is_calendar := by
  have nd := (sc_is_calendar).nd
  have tk : Takes (cxOf (L2.CX P w) P w K mg base ["value", "day", "sooner", "later"] "is_calendar" (defScope (top 19)) f cdv A outer s H E) (WD E) := takes_of rfl rfl rfl rfl
  have hp : PassesOwn (model P w) (A.deeper (envOfC "is_calendar" (defScope (top 19)) s.heap.objs.size f cdv)) (cxOf (L2.CX P w) P w K mg base ["value", "day", "sooner", "later"] "is_calendar" (defScope (top 19)) f cdv A outer s H E).env (cxOf (L2.CX P w) P w K mg base ["value", "day", "sooner", "later"] "is_calendar" (defScope (top 19)) f cdv A outer s H E).xe := passes_of rfl
  exact ds_cons (ds_if ((dw_or (dt_not (dt_val (de_isi isty_tup (by decide +kernel) (de_var 0) C.b_isinstance C.b_tuple))) (dw_or1 (dt_cmp op_gt od_gt (de_b call_len cd_len C.b_len (da_cons (de_var 0) (da_nil))) (de_gint C.c_MOST_HOLIDAYS) (by rfl)))).pt) (ds_one (ds_ret (de_bl))) (ds_nil)) (ds_cons (ds_if (dt_not (dt_val (de_b (cr_all rfl) cd_all C.b_all (da_cons (de_lc rfl nd (di_tup (de_var 0)) (blkOk_by (own := [("day", 1)]) rfl) (by decide) (fun s H C0 cl fp => dg_name 1 nd) (fun s H C0 cl fp => dts_nil) (fun s H C0 cl fp => de_callH h_is_integer hr (by decide) takes0 (da_cons (de_var 1) (da_cons (de_int) (da_cons (de_gint C.c_GREAT) (da_nil)))))) (da_nil))))) (ds_one (ds_ret (de_bl))) (ds_nil)) (ds_one (ds_ret (de_b (cr_all rfl) cd_all C.b_all (da_cons (de_lc rfl nd (di_zip C.b_zip (de_var 0) (de_sl (de_var 0) (do_some (de_int)) (do_none))) (blkOk_by (own := [("sooner", 2), ("later", 3)]) rfl) (by decide) (fun s H C0 cl fp => dg_tup rfl (goes_cons (goes_name 2) (goes_cons (goes_name 3) (goes_nil))) (dgs_cons (dg_name 2 nd) (dgs_cons (dg_name 3 nd) (dgs_nil)))) (fun s H C0 cl fp => dts_nil) (fun s H C0 cl fp => de_cmp or_lt od_lt (de_var 2) (de_var 3) (by rfl))) (da_nil))))))
theorem ln_is_calendar : ∀ ds M Q R, S_is_calendar ds M Q R → ds.length = 1 := by
  rintro ds M Q R ⟨_, _, rfl, _⟩
  rfl
theorem hs_is_calendar {P : Program} {w : World} {K : PySem.W.Frag} {mg : Str → Option Value} {base : Heap} (C : Fc P w K mg base) (h_is_integer : Has P w K mg base "is_integer" 2 ["value", "low", "high"] S_is_integer) : Has P w K mg base "is_calendar" 3 ["value"] S_is_calendar :=
  has_of C.f_is_calendar sc_is_calendar C.g_is_calendar (fun F => FunD.bindsN F fun _ _ _ _ _ _ us hl => match us, hl with | [_], _ => rfl) ln_is_calendar (fun f cdv A outer s H E hr => dv_is_calendar C h_is_integer f cdv A outer s H E hr) kp_is_calendar
theorem sc_need_calendar : FnScope ["value"] ["value"] (defScope (top 21)) := ⟨rfl, rfl, rfl, by decide +kernel, rfl, by decide +kernel, by decide +kernel⟩
theorem dv_need_calendar {P : Program} {w : World} {K : PySem.W.Frag} {mg : Str → Option Value} {base : Heap} (C : Fc P w K mg base) (h_is_calendar : Has P w K mg base "is_calendar" 3 ["value"] S_is_calendar) (f : Addr) (cdv : Value) (A : Around) (outer : List PySem.Env) (s : Shared) (H : Hp) (E : XK) (hr : Room 3 (A.deeper (envOfC "need_calendar" (defScope (top 21)) s.heap.objs.size f cdv))) :
    DSs (cxOf (L2.CX P w) P w K mg base ["value"] "need_calendar" (defScope (top 21)) f cdv A outer s H E) (WD E) (defBody (top 21)) t_need_calendar := by
  have nd := (sc_need_calendar).nd
  have tk : Takes (cxOf (L2.CX P w) P w K mg base ["value"] "need_calendar" (defScope (top 21)) f cdv A outer s H E) (WD E) := takes_of rfl rfl rfl rfl
  have hp : PassesOwn (model P w) (A.deeper (envOfC "need_calendar" (defScope (top 21)) s.heap.objs.size f cdv)) (cxOf (L2.CX P w) P w K mg base ["value"] "need_calendar" (defScope (top 21)) f cdv A outer s H E).env (cxOf (L2.CX P w) P w K mg base ["value"] "need_calendar" (defScope (top 21)) f cdv A outer s H E).xe := passes_of rfl
  exact ds_one (ds_if (dt_not (dt_val (de_callH h_is_calendar hr (by decide) tk (da_cons (de_var 0) (da_nil))))) (ds_one (ds_raiseH rfl tk C.g_InvalidCalendar C.x_InvalidCalendar)) (ds_nil))
theorem ln_need_calendar : ∀ ds M Q R, S_need_calendar ds M Q R → ds.length = 1 := by
  rintro ds M Q R ⟨_, _, rfl, _⟩
  rfl
theorem hs_need_calendar {P : Program} {w : World} {K : PySem.W.Frag} {mg : Str → Option Value} {base : Heap} (C : Fc P w K mg base) (h_is_calendar : Has P w K mg base "is_calendar" 3 ["value"] S_is_calendar) : Has P w K mg base "need_calendar" 4 ["value"] S_need_calendar :=
  has_of C.f_need_calendar sc_need_calendar C.g_need_calendar (fun F => FunD.bindsN F fun _ _ _ _ _ _ us hl => match us, hl with | [_], _ => rfl) ln_need_calendar (fun f cdv A outer s H E hr => dv_need_calendar C h_is_calendar f cdv A outer s H E hr) kp_need_calendar
theorem sc_need_number : FnScope ["value", "low", "high"] ["value", "low", "high"] (defScope (top 23)) := ⟨rfl, rfl, rfl, by decide +kernel, rfl, by decide +kernel, by decide +kernel⟩
theorem dv_need_number {P : Program} {w : World} {K : PySem.W.Frag} {mg : Str → Option Value} {base : Heap} (C : Fc P w K mg base) (h_is_integer : Has P w K mg base "is_integer" 2 ["value", "low", "high"] S_is_integer) (f : Addr) (cdv : Value) (A : Around) (outer : List PySem.Env) (s : Shared) (H : Hp) (E : XK) (hr : Room 2 (A.deeper (envOfC "need_number" (defScope (top 23)) s.heap.objs.size f cdv))) :
    DSs (cxOf (L2.CX P w) P w K mg base ["value", "low", "high"] "need_number" (defScope (top 23)) f cdv A outer s H E) (WD E) (defBody (top 23)) t_need_number := by
  have nd := (sc_need_number).nd
  have tk : Takes (cxOf (L2.CX P w) P w K mg base ["value", "low", "high"] "need_number" (defScope (top 23)) f cdv A outer s H E) (WD E) := takes_of rfl rfl rfl rfl
  have hp : PassesOwn (model P w) (A.deeper (envOfC "need_number" (defScope (top 23)) s.heap.objs.size f cdv)) (cxOf (L2.CX P w) P w K mg base ["value", "low", "high"] "need_number" (defScope (top 23)) f cdv A outer s H E).env (cxOf (L2.CX P w) P w K mg base ["value", "low", "high"] "need_number" (defScope (top 23)) f cdv A outer s H E).xe := passes_of rfl
  exact ds_one (ds_if (dt_not (dt_val (de_callH h_is_integer hr (by decide) tk (da_cons (de_var 0) (da_cons (de_var 1) (da_cons (de_var 2) (da_nil))))))) (ds_one (ds_raiseH rfl tk C.g_InvalidNumber C.x_InvalidNumber)) (ds_nil))
theorem ln_need_number : ∀ ds M Q R, S_need_number ds M Q R → ds.length = 3 := by
  rintro ds M Q R ⟨_, _, _, _, rfl, _⟩
  rfl
theorem hs_need_number {P : Program} {w : World} {K : PySem.W.Frag} {mg : Str → Option Value} {base : Heap} (C : Fc P w K mg base) (h_is_integer : Has P w K mg base "is_integer" 2 ["value", "low", "high"] S_is_integer) : Has P w K mg base "need_number" 3 ["value", "low", "high"] S_need_number :=
  has_of C.f_need_number sc_need_number C.g_need_number (fun F => FunD.bindsN F fun _ _ _ _ _ _ us hl => match us, hl with | [_, _, _], _ => rfl) ln_need_number (fun f cdv A outer s H E hr => dv_need_number C h_is_integer f cdv A outer s H E hr) kp_need_number
theorem sc_day_by : FnScope ["house", "number", "work"] ["house", "number"] (defScope (top 27)) := ⟨rfl, rfl, rfl, by decide +kernel, rfl, by decide +kernel, by decide +kernel⟩
theorem dv_day_by {P : Program} {w : World} {K : PySem.W.Frag} {mg : Str → Option Value} {base : Heap} (C : Fc P w K mg base)  (f : Addr) (cdv : Value) (A : Around) (outer : List PySem.Env) (s : Shared) (H : Hp) (E : XK) (hr : Room 1 (A.deeper (envOfC "day_by" (defScope (top 27)) s.heap.objs.size f cdv))) :
    DSs (cxOf (L2.CX P w) P w K mg base ["house", "number", "work"] "day_by" (defScope (top 27)) f cdv A outer s H E) (WD E) (defBody (top 27)) t_day_by := by
  have nd := (sc_day_by).nd
  have tk : Takes (cxOf (L2.CX P w) P w K mg base ["house", "number", "work"] "day_by" (defScope (top 27)) f cdv A outer s H E) (WD E) := takes_of rfl rfl rfl rfl
  have hp : PassesOwn (model P w) (A.deeper (envOfC "day_by" (defScope (top 27)) s.heap.objs.size f cdv)) (cxOf (L2.CX P w) P w K mg base ["house", "number", "work"] "day_by" (defScope (top 27)) f cdv A outer s H E).env (cxOf (L2.CX P w) P w K mg base ["house", "number", "work"] "day_by" (defScope (top 27)) f cdv A outer s H E).xe := passes_of rfl
  exact ds_cons (ds_set 2 nd (de_ix hr.u1 (de_var 0) (de_int))) (ds_one (ds_ret (de_bin or_add od_add (de_bin or_mul od_mul (de_bin op_fdivW od_div (de_var 1) (de_b call_len cd_len C.b_len (da_cons (de_var 2) (da_nil)))) (de_gint C.c_WEEK)) (de_ty cr_int cd_int C.b_int (da_cons (de_ix hr.u1 (de_var 2) (de_bin op_mod od_mod (de_var 1) (de_b call_len cd_len C.b_len (da_cons (de_var 2) (da_nil))))) (da_nil))))))
theorem ln_day_by : ∀ ds M Q R, S_day_by ds M Q R → ds.length = 2 := by
  rintro ds M Q R ⟨_, _, _, rfl, _⟩
  rfl
theorem hs_day_by {P : Program} {w : World} {K : PySem.W.Frag} {mg : Str → Option Value} {base : Heap} (C : Fc P w K mg base)  : Has P w K mg base "day_by" 2 ["house", "number"] S_day_by :=
  has_of C.f_day_by sc_day_by C.g_day_by (fun F => FunD.bindsN F fun _ _ _ _ _ _ us hl => match us, hl with | [_, _], _ => rfl) ln_day_by (fun f cdv A outer s H E hr => dv_day_by C  f cdv A outer s H E hr) kp_day_by
theorem sc_figure_of : FnScope ["day"] ["day"] (defScope (top 25)) := ⟨rfl, rfl, rfl, by decide +kernel, rfl, by decide +kernel, by decide +kernel⟩
theorem dv_figure_of {P : Program} {w : World} {K : PySem.W.Frag} {mg : Str → Option Value} {base : Heap} (C : Fc P w K mg base)  (f : Addr) (cdv : Value) (A : Around) (outer : List PySem.Env) (s : Shared) (H : Hp) (E : XK) (hr : Room 1 (A.deeper (envOfC "figure_of" (defScope (top 25)) s.heap.objs.size f cdv))) :
    DSs (cxOf (L2.CX P w) P w K mg base ["day"] "figure_of" (defScope (top 25)) f cdv A outer s H E) (WD E) (defBody (top 25)) t_figure_of := by
  have nd := (sc_figure_of).nd
  have tk : Takes (cxOf (L2.CX P w) P w K mg base ["day"] "figure_of" (defScope (top 25)) f cdv A outer s H E) (WD E) := takes_of rfl rfl rfl rfl
  have hp : PassesOwn (model P w) (A.deeper (envOfC "figure_of" (defScope (top 25)) s.heap.objs.size f cdv)) (cxOf (L2.CX P w) P w K mg base ["day"] "figure_of" (defScope (top 25)) f cdv A outer s H E).env (cxOf (L2.CX P w) P w K mg base ["day"] "figure_of" (defScope (top 25)) f cdv A outer s H E).xe := passes_of rfl
  exact ds_one (ds_ret (de_ix hr.u1 (de_gstr C.c_FIGURES) (de_bin op_mod od_mod (de_var 0) (de_gint C.c_WEEK))))
theorem ln_figure_of : ∀ ds M Q R, S_figure_of ds M Q R → ds.length = 1 := by
  rintro ds M Q R ⟨_, rfl, _⟩
  rfl
theorem hs_figure_of {P : Program} {w : World} {K : PySem.W.Frag} {mg : Str → Option Value} {base : Heap} (C : Fc P w K mg base)  : Has P w K mg base "figure_of" 2 ["day"] S_figure_of :=
  has_of C.f_figure_of sc_figure_of C.g_figure_of (fun F => FunD.bindsN F fun _ _ _ _ _ _ us hl => match us, hl with | [_], _ => rfl) ln_figure_of (fun f cdv A outer s H E hr => dv_figure_of C  f cdv A outer s H E hr) kp_figure_of
theorem sc_begins_on : FnScope ["house", "day"] ["house", "day"] (defScope (top 28)) := ⟨rfl, rfl, rfl, by decide +kernel, rfl, by decide +kernel, by decide +kernel⟩
theorem dv_begins_on {P : Program} {w : World} {K : PySem.W.Frag} {mg : Str → Option Value} {base : Heap} (C : Fc P w K mg base) (h_figure_of : Has P w K mg base "figure_of" 2 ["day"] S_figure_of) (f : Addr) (cdv : Value) (A : Around) (outer : List PySem.Env) (s : Shared) (H : Hp) (E : XK) (hr : Room 2 (A.deeper (envOfC "begins_on" (defScope (top 28)) s.heap.objs.size f cdv))) :
    DSs (cxOf (L2.CX P w) P w K mg base ["house", "day"] "begins_on" (defScope (top 28)) f cdv A outer s H E) (WD E) (defBody (top 28)) t_begins_on := by
  have nd := (sc_begins_on).nd
  have tk : Takes (cxOf (L2.CX P w) P w K mg base ["house", "day"] "begins_on" (defScope (top 28)) f cdv A outer s H E) (WD E) := takes_of rfl rfl rfl rfl
  have hp : PassesOwn (model P w) (A.deeper (envOfC "begins_on" (defScope (top 28)) s.heap.objs.size f cdv)) (cxOf (L2.CX P w) P w K mg base ["house", "day"] "begins_on" (defScope (top 28)) f cdv A outer s H E).env (cxOf (L2.CX P w) P w K mg base ["house", "day"] "begins_on" (defScope (top 28)) f cdv A outer s H E).xe := passes_of rfl
  exact ds_one (ds_ret (de_ty cr_int cd_int C.b_int (da_cons (de_cmp (or_in hr.u65) od_in (de_callH h_figure_of hr (by decide) tk (da_cons (de_var 1) (da_nil))) (de_ix hr.u1 (de_var 0) (de_int)) (by rfl)) (da_nil))))
theorem ln_begins_on : ∀ ds M Q R, S_begins_on ds M Q R → ds.length = 2 := by
  rintro ds M Q R ⟨_, _, _, rfl, _⟩
  rfl
theorem hs_begins_on {P : Program} {w : World} {K : PySem.W.Frag} {mg : Str → Option Value} {base : Heap} (C : Fc P w K mg base) (h_figure_of : Has P w K mg base "figure_of" 2 ["day"] S_figure_of) : Has P w K mg base "begins_on" 3 ["house", "day"] S_begins_on :=
  has_of C.f_begins_on sc_begins_on C.g_begins_on (fun F => FunD.bindsN F fun _ _ _ _ _ _ us hl => match us, hl with | [_, _], _ => rfl) ln_begins_on (fun f cdv A outer s H E hr => dv_begins_on C h_figure_of f cdv A outer s H E hr) kp_begins_on
theorem sc_most_done : FnScope ["house", "day", "is_holiday"] ["house", "day", "is_holiday"] (defScope (top 29)) := ⟨rfl, rfl, rfl, by decide +kernel, rfl, by decide +kernel, by decide +kernel⟩
theorem dv_most_done {P : Program} {w : World} {K : PySem.W.Frag} {mg : Str → Option Value} {base : Heap} (C : Fc P w K mg base) (h_figure_of : Has P w K mg base "figure_of" 2 ["day"] S_figure_of) (f : Addr) (cdv : Value) (A : Around) (outer : List PySem.Env) (s : Shared) (H : Hp) (E : XK) (hr : Room 2 (A.deeper (envOfC "most_done" (defScope (top 29)) s.heap.objs.size f cdv))) :
    DSs (cxOf (L2.CX P w) P w K mg base ["house", "day", "is_holiday"] "most_done" (defScope (top 29)) f cdv A outer s H E) (WD E) (defBody (top 29)) t_most_done := by
  have nd := (sc_most_done).nd
  have tk : Takes (cxOf (L2.CX P w) P w K mg base ["house", "day", "is_holiday"] "most_done" (defScope (top 29)) f cdv A outer s H E) (WD E) := takes_of rfl rfl rfl rfl
  have hp : PassesOwn (model P w) (A.deeper (envOfC "most_done" (defScope (top 29)) s.heap.objs.size f cdv)) (cxOf (L2.CX P w) P w K mg base ["house", "day", "is_holiday"] "most_done" (defScope (top 29)) f cdv A outer s H E).env (cxOf (L2.CX P w) P w K mg base ["house", "day", "is_holiday"] "most_done" (defScope (top 29)) f cdv A outer s H E).xe := passes_of rfl
  exact ds_one (ds_ret (de_ifE ((dw_and (dt_cmp (or_in hr.u65) od_in (de_callH h_figure_of hr (by decide) tk (da_cons (de_var 1) (da_nil))) (de_ix hr.u1 (de_var 0) (de_int)) (by rfl)) (dw_and1 (dt_not (dt_val (de_var 2))))).pt) (de_ix hr.u1 (de_var 0) (de_int)) (de_int)))
theorem ln_most_done : ∀ ds M Q R, S_most_done ds M Q R → ds.length = 3 := by
  rintro ds M Q R ⟨_, _, _, _, rfl, _⟩
  rfl
theorem hs_most_done {P : Program} {w : World} {K : PySem.W.Frag} {mg : Str → Option Value} {base : Heap} (C : Fc P w K mg base) (h_figure_of : Has P w K mg base "figure_of" 2 ["day"] S_figure_of) : Has P w K mg base "most_done" 3 ["house", "day", "is_holiday"] S_most_done :=
  has_of C.f_most_done sc_most_done C.g_most_done (fun F => FunD.bindsN F fun _ _ _ _ _ _ us hl => match us, hl with | [_, _, _], _ => rfl) ln_most_done (fun f cdv A outer s H E hr => dv_most_done C h_figure_of f cdv A outer s H E hr) kp_most_done
theorem sc_waits_behind : FnScope ["house", "day", "waits", "is_holiday", "here"] ["house", "day", "waits", "is_holiday"] (defScope (top 30)) := ⟨rfl, rfl, rfl, by decide +kernel, rfl, by decide +kernel, by decide +kernel⟩
theorem dv_waits_behind {P : Program} {w : World} {K : PySem.W.Frag} {mg : Str → Option Value} {base : Heap} (C : Fc P w K mg base) (h_begins_on : Has P w K mg base "begins_on" 3 ["house", "day"] S_begins_on) (h_most_done : Has P w K mg base "most_done" 3 ["house", "day", "is_holiday"] S_most_done) (f : Addr) (cdv : Value) (A : Around) (outer : List PySem.Env) (s : Shared) (H : Hp) (E : XK) (hr : Room 3 (A.deeper (envOfC "waits_behind" (defScope (top 30)) s.heap.objs.size f cdv))) :
    DSs (cxOf (L2.CX P w) P w K mg base ["house", "day", "waits", "is_holiday", "here"] "waits_behind" (defScope (top 30)) f cdv A outer s H E) (WD E) (defBody (top 30)) t_waits_behind := by
  have nd := (sc_waits_behind).nd
  have tk : Takes (cxOf (L2.CX P w) P w K mg base ["house", "day", "waits", "is_holiday", "here"] "waits_behind" (defScope (top 30)) f cdv A outer s H E) (WD E) := takes_of rfl rfl rfl rfl
  have hp : PassesOwn (model P w) (A.deeper (envOfC "waits_behind" (defScope (top 30)) s.heap.objs.size f cdv)) (cxOf (L2.CX P w) P w K mg base ["house", "day", "waits", "is_holiday", "here"] "waits_behind" (defScope (top 30)) f cdv A outer s H E).env (cxOf (L2.CX P w) P w K mg base ["house", "day", "waits", "is_holiday", "here"] "waits_behind" (defScope (top 30)) f cdv A outer s H E).xe := passes_of rfl
  exact ds_cons (ds_set 4 nd (de_bin or_add od_add (de_var 2) (de_callH h_begins_on hr (by decide) tk (da_cons (de_var 0) (da_cons (de_var 1) (da_nil)))))) (ds_one (ds_ret (de_bin op_sub od_sub (de_var 4) (de_b (cr_minU rfl) cd_min C.b_min (da_cons (de_var 4) (da_cons (de_callH h_most_done hr (by decide) tk (da_cons (de_var 0) (da_cons (de_var 1) (da_cons (de_var 3) (da_nil))))) (da_nil)))))))
theorem ln_waits_behind : ∀ ds M Q R, S_waits_behind ds M Q R → ds.length = 4 := by
  rintro ds M Q R ⟨_, _, _, _, _, rfl, _⟩
  rfl
theorem hs_waits_behind {P : Program} {w : World} {K : PySem.W.Frag} {mg : Str → Option Value} {base : Heap} (C : Fc P w K mg base) (h_begins_on : Has P w K mg base "begins_on" 3 ["house", "day"] S_begins_on) (h_most_done : Has P w K mg base "most_done" 3 ["house", "day", "is_holiday"] S_most_done) : Has P w K mg base "waits_behind" 4 ["house", "day", "waits", "is_holiday"] S_waits_behind :=
  has_of C.f_waits_behind sc_waits_behind C.g_waits_behind (fun F => FunD.bindsN F fun _ _ _ _ _ _ us hl => match us, hl with | [_, _, _, _], _ => rfl) ln_waits_behind (fun f cdv A outer s H E hr => dv_waits_behind C h_begins_on h_most_done f cdv A outer s H E hr) kp_waits_behind
theorem sc_week_behind : FnScope ["house", "calendar", "begin", "waits", "day"] ["house", "calendar", "begin", "waits"] (defScope (top 51)) := ⟨rfl, rfl, rfl, by decide +kernel, rfl, by decide +kernel, by decide +kernel⟩
theorem dv_week_behind {P : Program} {w : World} {K : PySem.W.Frag} {mg : Str → Option Value} {base : Heap} (C : Fc P w K mg base) (h_waits_behind : Has P w K mg base "waits_behind" 4 ["house", "day", "waits", "is_holiday"] S_waits_behind) (f : Addr) (cdv : Value) (A : Around) (outer : List PySem.Env) (s : Shared) (H : Hp) (E : XK) (hr : Room 4 (A.deeper (envOfC "week_behind" (defScope (top 51)) s.heap.objs.size f cdv))) :
    DSs (cxOf (L2.CX P w) P w K mg base ["house", "calendar", "begin", "waits", "day"] "week_behind" (defScope (top 51)) f cdv A outer s H E) (WD E) (defBody (top 51)) t_week_behind := by
  have nd := (sc_week_behind).nd
  have tk : Takes (cxOf (L2.CX P w) P w K mg base ["house", "calendar", "begin", "waits", "day"] "week_behind" (defScope (top 51)) f cdv A outer s H E) (WD E) := takes_of rfl rfl rfl rfl
  have hp : PassesOwn (model P w) (A.deeper (envOfC "week_behind" (defScope (top 51)) s.heap.objs.size f cdv)) (cxOf (L2.CX P w) P w K mg base ["house", "calendar", "begin", "waits", "day"] "week_behind" (defScope (top 51)) f cdv A outer s H E).env (cxOf (L2.CX P w) P w K mg base ["house", "calendar", "begin", "waits", "day"] "week_behind" (defScope (top 51)) f cdv A outer s H E).xe := passes_of rfl
  exact ds_cons (ds_for hp rfl (di_rg2 C.b_range (de_var 2) (de_bin or_add od_add (de_var 2) (de_gint C.c_WEEK))) (dg_name 4 nd) (ds_one (ds_set 3 nd (de_callH h_waits_behind hr (by decide) tk (da_cons (de_var 0) (da_cons (de_var 4) (da_cons (de_var 3) (da_cons (de_cmp (or_in hr.u65) od_in (de_var 4) (de_var 1) (by rfl)) (da_nil))))))))) (ds_one (ds_ret (de_var 3)))
theorem ln_week_behind : ∀ ds M Q R, S_week_behind ds M Q R → ds.length = 4 := by
  rintro ds M Q R ⟨_, _, _, _, _, rfl, _⟩
  rfl
theorem hs_week_behind {P : Program} {w : World} {K : PySem.W.Frag} {mg : Str → Option Value} {base : Heap} (C : Fc P w K mg base) (h_waits_behind : Has P w K mg base "waits_behind" 4 ["house", "day", "waits", "is_holiday"] S_waits_behind) : Has P w K mg base "week_behind" 5 ["house", "calendar", "begin", "waits"] S_week_behind :=
  has_of C.f_week_behind sc_week_behind C.g_week_behind (fun F => FunD.bindsN F fun _ _ _ _ _ _ us hl => match us, hl with | [_, _, _, _], _ => rfl) ln_week_behind (fun f cdv A outer s H E hr => dv_week_behind C h_waits_behind f cdv A outer s H E hr) kp_week_behind
theorem sc_waits_ahead : FnScope ["house", "calendar", "goal", "begin", "waits", "later", "far", "marks", "day"] ["house", "calendar", "goal"] (defScope (top 52)) := ⟨rfl, rfl, rfl, by decide +kernel, rfl, by decide +kernel, by decide +kernel⟩
theorem dv_waits_ahead {P : Program} {w : World} {K : PySem.W.Frag} {mg : Str → Option Value} {base : Heap} (C : Fc P w K mg base) (h_waits_behind : Has P w K mg base "waits_behind" 4 ["house", "day", "waits", "is_holiday"] S_waits_behind) (h_week_behind : Has P w K mg base "week_behind" 5 ["house", "calendar", "begin", "waits"] S_week_behind) (f : Addr) (cdv : Value) (A : Around) (outer : List PySem.Env) (s : Shared) (H : Hp) (E : XK) (hr : Room 5 (A.deeper (envOfC "waits_ahead" (defScope (top 52)) s.heap.objs.size f cdv))) :
    DSs (cxOf (L2.CX P w) P w K mg base ["house", "calendar", "goal", "begin", "waits", "later", "far", "marks", "day"] "waits_ahead" (defScope (top 52)) f cdv A outer s H E) (WD E) (defBody (top 52)) t_waits_ahead := by
  have nd := (sc_waits_ahead).nd
  have tk : Takes (cxOf (L2.CX P w) P w K mg base ["house", "calendar", "goal", "begin", "waits", "later", "far", "marks", "day"] "waits_ahead" (defScope (top 52)) f cdv A outer s H E) (WD E) := takes_of rfl rfl rfl rfl
  have hp : PassesOwn (model P w) (A.deeper (envOfC "waits_ahead" (defScope (top 52)) s.heap.objs.size f cdv)) (cxOf (L2.CX P w) P w K mg base ["house", "calendar", "goal", "begin", "waits", "later", "far", "marks", "day"] "waits_ahead" (defScope (top 52)) f cdv A outer s H E).env (cxOf (L2.CX P w) P w K mg base ["house", "calendar", "goal", "begin", "waits", "later", "far", "marks", "day"] "waits_ahead" (defScope (top 52)) f cdv A outer s H E).xe := passes_of rfl
  exact ds_cons (ds_asg (de_tup (da_cons (de_int) (da_cons (de_int) (da_nil)))) (dg_tup rfl (goes_cons (goes_name 3) (goes_cons (goes_name 4) (goes_nil))) (dgs_cons (dg_name 3 nd) (dgs_cons (dg_name 4 nd) (dgs_nil))))) (ds_cons (ds_while hp (dt_cmp or_le od_le (de_bin or_add od_add (de_var 3) (de_gint C.c_WEEK)) (de_var 2) (by rfl)) (ds_cons (ds_set 5 nd (de_callH h_week_behind hr (by decide) tk (da_cons (de_var 0) (da_cons (de_var 1) (da_cons (de_var 3) (da_cons (de_var 4) (da_nil))))))) (ds_cons (ds_set 6 nd (de_bin or_add od_add (de_var 3) (de_gint C.c_WEEK))) (ds_cons (ds_if ((dw_and (dt_cmp (op_eqD hr.u64) od_eq (de_var 5) (de_var 4) (by rfl)) (dw_and1 (dt_not (dt_val (de_b (cr_any rfl) cd_any C.b_any (da_cons (de_lc rfl nd (di_tup (de_var 1)) (blkOk_by (own := [("day", 8)]) rfl) (by decide) (fun s H C0 cl fp => dg_name 8 nd) (fun s H C0 cl fp => dts_nil) (fun s H C0 cl fp => de_chain or_le or_lt od_le od_lt (de_var 3) (de_var 8) (de_var 6))) (da_nil))))))).pt) (ds_cons (ds_setLc 7 rfl nd (di_tup (de_var 1)) (blkOk_by (own := [("day", 8)]) rfl) (by decide) (fun s H C0 cl fp => dg_name 8 nd) (fun s H C0 cl fp => dts_one (dt_cmp op_ge od_ge (de_var 8) (de_var 6) (by rfl))) (fun s H C0 cl fp => de_bin op_sub od_sub (de_var 8) (de_bin op_mod od_mod (de_var 8) (de_gint C.c_WEEK))) (by rfl)) (ds_one (ds_set 6 nd (de_b (cr_maxU rfl) cd_max C.b_max (da_cons (de_var 6) (da_cons (de_b (cr_minU rfl) cd_min C.b_min (da_cons (de_bin or_add od_add (de_var 7) (de_lst (da_cons (de_bin op_sub od_sub (de_var 2) (de_bin op_mod od_mod (de_var 2) (de_gint C.c_WEEK))) (da_nil)))) (da_nil))) (da_nil))))))) (ds_nil)) (ds_one (ds_asg (de_tup (da_cons (de_var 6) (da_cons (de_var 5) (da_nil)))) (dg_tup rfl (goes_cons (goes_name 3) (goes_cons (goes_name 4) (goes_nil))) (dgs_cons (dg_name 3 nd) (dgs_cons (dg_name 4 nd) (dgs_nil)))))))))) (ds_cons (ds_for hp rfl (di_rg2 C.b_range (de_var 3) (de_var 2)) (dg_name 8 nd) (ds_one (ds_set 4 nd (de_callH h_waits_behind hr (by decide) tk (da_cons (de_var 0) (da_cons (de_var 8) (da_cons (de_var 4) (da_cons (de_cmp (or_in hr.u65) od_in (de_var 8) (de_var 1) (by rfl)) (da_nil))))))))) (ds_one (ds_ret (de_var 4)))))
theorem ln_waits_ahead : ∀ ds M Q R, S_waits_ahead ds M Q R → ds.length = 3 := by
  rintro ds M Q R ⟨_, _, _, _, _, rfl, _⟩
  rfl
theorem hs_waits_ahead {P : Program} {w : World} {K : PySem.W.Frag} {mg : Str → Option Value} {base : Heap} (C : Fc P w K mg base) (h_waits_behind : Has P w K mg base "waits_behind" 4 ["house", "day", "waits", "is_holiday"] S_waits_behind) (h_week_behind : Has P w K mg base "week_behind" 5 ["house", "calendar", "begin", "waits"] S_week_behind) : Has P w K mg base "waits_ahead" 6 ["house", "calendar", "goal"] S_waits_ahead :=
  has_of C.f_waits_ahead sc_waits_ahead C.g_waits_ahead (fun F => FunD.bindsN F fun _ _ _ _ _ _ us hl => match us, hl with | [_, _, _], _ => rfl) ln_waits_ahead (fun f cdv A outer s H E hr => dv_waits_ahead C h_waits_behind h_week_behind f cdv A outer s H E hr) kp_waits_ahead
theorem sc_done_on_by : FnScope ["house", "calendar", "number", "day", "ahead"] ["house", "calendar", "number"] (defScope (top 55)) := ⟨rfl, rfl, rfl, by decide +kernel, rfl, by decide +kernel, by decide +kernel⟩
theorem dv_done_on_by {P : Program} {w : World} {K : PySem.W.Frag} {mg : Str → Option Value} {base : Heap} (C : Fc P w K mg base) (h_day_by : Has P w K mg base "day_by" 2 ["house", "number"] S_day_by) (h_most_done : Has P w K mg base "most_done" 3 ["house", "day", "is_holiday"] S_most_done) (h_waits_ahead : Has P w K mg base "waits_ahead" 6 ["house", "calendar", "goal"] S_waits_ahead) (f : Addr) (cdv : Value) (A : Around) (outer : List PySem.Env) (s : Shared) (H : Hp) (E : XK) (hr : Room 6 (A.deeper (envOfC "done_on_by" (defScope (top 55)) s.heap.objs.size f cdv))) :
    DSs (cxOf (L2.CX P w) P w K mg base ["house", "calendar", "number", "day", "ahead"] "done_on_by" (defScope (top 55)) f cdv A outer s H E) (WD E) (defBody (top 55)) t_done_on_by := by
  have nd := (sc_done_on_by).nd
  have tk : Takes (cxOf (L2.CX P w) P w K mg base ["house", "calendar", "number", "day", "ahead"] "done_on_by" (defScope (top 55)) f cdv A outer s H E) (WD E) := takes_of rfl rfl rfl rfl
  have hp : PassesOwn (model P w) (A.deeper (envOfC "done_on_by" (defScope (top 55)) s.heap.objs.size f cdv)) (cxOf (L2.CX P w) P w K mg base ["house", "calendar", "number", "day", "ahead"] "done_on_by" (defScope (top 55)) f cdv A outer s H E).env (cxOf (L2.CX P w) P w K mg base ["house", "calendar", "number", "day", "ahead"] "done_on_by" (defScope (top 55)) f cdv A outer s H E).xe := passes_of rfl
  exact ds_cons (ds_set 3 nd (de_callH h_day_by hr (by decide) tk (da_cons (de_var 0) (da_cons (de_var 2) (da_nil))))) (ds_cons (ds_set 4 nd (de_bin op_sub od_sub (de_callH h_waits_ahead hr (by decide) tk (da_cons (de_var 0) (da_cons (de_var 1) (da_cons (de_var 3) (da_nil))))) (de_callH h_most_done hr (by decide) tk (da_cons (de_var 0) (da_cons (de_var 3) (da_cons (de_cmp (or_in hr.u65) od_in (de_var 3) (de_var 1) (by rfl)) (da_nil))))))) (ds_cons (ds_while hp (dt_cmp op_ge od_ge (de_var 4) (de_int) (by rfl)) (ds_cons (ds_aug 3 nd ip_add od_ipadd (de_int)) (ds_one (ds_aug 4 nd ip_sub od_ipsub (de_callH h_most_done hr (by decide) tk (da_cons (de_var 0) (da_cons (de_var 3) (da_cons (de_cmp (or_in hr.u65) od_in (de_var 3) (de_var 1) (by rfl)) (da_nil))))))))) (ds_one (ds_ret (de_var 3)))))
theorem ln_done_on_by : ∀ ds M Q R, S_done_on_by ds M Q R → ds.length = 3 := by
  rintro ds M Q R ⟨_, _, _, _, _, _, _, rfl, _⟩
  rfl
theorem hs_done_on_by {P : Program} {w : World} {K : PySem.W.Frag} {mg : Str → Option Value} {base : Heap} (C : Fc P w K mg base) (h_day_by : Has P w K mg base "day_by" 2 ["house", "number"] S_day_by) (h_most_done : Has P w K mg base "most_done" 3 ["house", "day", "is_holiday"] S_most_done) (h_waits_ahead : Has P w K mg base "waits_ahead" 6 ["house", "calendar", "goal"] S_waits_ahead) : Has P w K mg base "done_on_by" 7 ["house", "calendar", "number"] S_done_on_by :=
  has_of C.f_done_on_by sc_done_on_by C.g_done_on_by (fun F => FunD.bindsN F fun _ _ _ _ _ _ us hl => match us, hl with | [_, _, _], _ => rfl) ln_done_on_by (fun f cdv A outer s H E hr => dv_done_on_by C h_day_by h_most_done h_waits_ahead f cdv A outer s H E hr) kp_done_on_by
theorem sc_done_on : FnScope ["house", "calendar", "number"] ["house", "calendar", "number"] (defScope (top 56)) := ⟨rfl, rfl, rfl, by decide +kernel, rfl, by decide +kernel, by decide +kernel⟩
theorem dv_done_on {P : Program} {w : World} {K : PySem.W.Frag} {mg : Str → Option Value} {base : Heap} (C : Fc P w K mg base) (h_need_house : Has P w K mg base "need_house" 4 ["value"] S_need_house) (h_need_calendar : Has P w K mg base "need_calendar" 4 ["value"] S_need_calendar) (h_need_number : Has P w K mg base "need_number" 3 ["value", "low", "high"] S_need_number) (h_done_on_by : Has P w K mg base "done_on_by" 7 ["house", "calendar", "number"] S_done_on_by) (f : Addr) (cdv : Value) (A : Around) (outer : List PySem.Env) (s : Shared) (H : Hp) (E : XK) (hr : Room 7 (A.deeper (envOfC "done_on" (defScope (top 56)) s.heap.objs.size f cdv))) :
    DSs (cxOf (L2.CX P w) P w K mg base ["house", "calendar", "number"] "done_on" (defScope (top 56)) f cdv A outer s H E) (WD E) (defBody (top 56)) t_done_on := by
  have nd := (sc_done_on).nd
  have tk : Takes (cxOf (L2.CX P w) P w K mg base ["house", "calendar", "number"] "done_on" (defScope (top 56)) f cdv A outer s H E) (WD E) := takes_of rfl rfl rfl rfl
  have hp : PassesOwn (model P w) (A.deeper (envOfC "done_on" (defScope (top 56)) s.heap.objs.size f cdv)) (cxOf (L2.CX P w) P w K mg base ["house", "calendar", "number"] "done_on" (defScope (top 56)) f cdv A outer s H E).env (cxOf (L2.CX P w) P w K mg base ["house", "calendar", "number"] "done_on" (defScope (top 56)) f cdv A outer s H E).xe := passes_of rfl
  exact ds_cons (ds_expr (de_callH h_need_house hr (by decide) tk (da_cons (de_var 0) (da_nil)))) (ds_cons (ds_expr (de_callH h_need_calendar hr (by decide) tk (da_cons (de_var 1) (da_nil)))) (ds_cons (ds_expr (de_callH h_need_number hr (by decide) tk (da_cons (de_var 2) (da_cons (de_int) (da_cons (de_gint C.c_GREAT) (da_nil)))))) (ds_one (ds_ret (de_callH h_done_on_by hr (by decide) tk (da_cons (de_var 0) (da_cons (de_var 1) (da_cons (de_var 2) (da_nil)))))))))
theorem ln_done_on : ∀ ds M Q R, S_done_on ds M Q R → ds.length = 3 := by
  rintro ds M Q R ⟨_, _, _, _, _, _, _, _, rfl, _⟩
  rfl
theorem hs_done_on {P : Program} {w : World} {K : PySem.W.Frag} {mg : Str → Option Value} {base : Heap} (C : Fc P w K mg base) (h_need_house : Has P w K mg base "need_house" 4 ["value"] S_need_house) (h_need_calendar : Has P w K mg base "need_calendar" 4 ["value"] S_need_calendar) (h_need_number : Has P w K mg base "need_number" 3 ["value", "low", "high"] S_need_number) (h_done_on_by : Has P w K mg base "done_on_by" 7 ["house", "calendar", "number"] S_done_on_by) : Has P w K mg base "done_on" 8 ["house", "calendar", "number"] S_done_on :=
  has_of C.f_done_on sc_done_on C.g_done_on (fun F => FunD.bindsN F fun _ _ _ _ _ _ us hl => match us, hl with | [_, _, _], _ => rfl) ln_done_on (fun f cdv A outer s H E hr => dv_done_on C h_need_house h_need_calendar h_need_number h_done_on_by f cdv A outer s H E hr) kp_done_on
theorem sc_need_day : FnScope ["value"] ["value"] (defScope (top 22)) := ⟨rfl, rfl, rfl, by decide +kernel, rfl, by decide +kernel, by decide +kernel⟩
theorem dv_need_day {P : Program} {w : World} {K : PySem.W.Frag} {mg : Str → Option Value} {base : Heap} (C : Fc P w K mg base) (h_is_integer : Has P w K mg base "is_integer" 2 ["value", "low", "high"] S_is_integer) (f : Addr) (cdv : Value) (A : Around) (outer : List PySem.Env) (s : Shared) (H : Hp) (E : XK) (hr : Room 2 (A.deeper (envOfC "need_day" (defScope (top 22)) s.heap.objs.size f cdv))) :
    DSs (cxOf (L2.CX P w) P w K mg base ["value"] "need_day" (defScope (top 22)) f cdv A outer s H E) (WD E) (defBody (top 22)) t_need_day := by
  have nd := (sc_need_day).nd
  have tk : Takes (cxOf (L2.CX P w) P w K mg base ["value"] "need_day" (defScope (top 22)) f cdv A outer s H E) (WD E) := takes_of rfl rfl rfl rfl
  have hp : PassesOwn (model P w) (A.deeper (envOfC "need_day" (defScope (top 22)) s.heap.objs.size f cdv)) (cxOf (L2.CX P w) P w K mg base ["value"] "need_day" (defScope (top 22)) f cdv A outer s H E).env (cxOf (L2.CX P w) P w K mg base ["value"] "need_day" (defScope (top 22)) f cdv A outer s H E).xe := passes_of rfl
  exact ds_one (ds_if (dt_not (dt_val (de_callH h_is_integer hr (by decide) tk (da_cons (de_var 0) (da_cons (de_int) (da_cons (de_gint C.c_GREAT) (da_nil))))))) (ds_one (ds_raiseH rfl tk C.g_InvalidDay C.x_InvalidDay)) (ds_nil))
theorem ln_need_day : ∀ ds M Q R, S_need_day ds M Q R → ds.length = 1 := by
  rintro ds M Q R ⟨_, _, rfl, _⟩
  rfl
theorem hs_need_day {P : Program} {w : World} {K : PySem.W.Frag} {mg : Str → Option Value} {base : Heap} (C : Fc P w K mg base) (h_is_integer : Has P w K mg base "is_integer" 2 ["value", "low", "high"] S_is_integer) : Has P w K mg base "need_day" 3 ["value"] S_need_day :=
  has_of C.f_need_day sc_need_day C.g_need_day (fun F => FunD.bindsN F fun _ _ _ _ _ _ us hl => match us, hl with | [_], _ => rfl) ln_need_day (fun f cdv A outer s H E hr => dv_need_day C h_is_integer f cdv A outer s H E hr) kp_need_day
theorem sc_rounds_before : FnScope ["house", "day", "figure"] ["house", "day"] (defScope (top 26)) := ⟨rfl, rfl, rfl, by decide +kernel, rfl, by decide +kernel, by decide +kernel⟩
theorem dv_rounds_before {P : Program} {w : World} {K : PySem.W.Frag} {mg : Str → Option Value} {base : Heap} (C : Fc P w K mg base) (h_figure_of : Has P w K mg base "figure_of" 2 ["day"] S_figure_of) (f : Addr) (cdv : Value) (A : Around) (outer : List PySem.Env) (s : Shared) (H : Hp) (E : XK) (hr : Room 2 (A.deeper (envOfC "rounds_before" (defScope (top 26)) s.heap.objs.size f cdv))) :
    DSs (cxOf (L2.CX P w) P w K mg base ["house", "day", "figure"] "rounds_before" (defScope (top 26)) f cdv A outer s H E) (WD E) (defBody (top 26)) t_rounds_before := by
  have nd := (sc_rounds_before).nd
  have tk : Takes (cxOf (L2.CX P w) P w K mg base ["house", "day", "figure"] "rounds_before" (defScope (top 26)) f cdv A outer s H E) (WD E) := takes_of rfl rfl rfl rfl
  have hp : PassesOwn (model P w) (A.deeper (envOfC "rounds_before" (defScope (top 26)) s.heap.objs.size f cdv)) (cxOf (L2.CX P w) P w K mg base ["house", "day", "figure"] "rounds_before" (defScope (top 26)) f cdv A outer s H E).env (cxOf (L2.CX P w) P w K mg base ["house", "day", "figure"] "rounds_before" (defScope (top 26)) f cdv A outer s H E).xe := passes_of rfl
  exact ds_one (ds_ret (de_bin or_add od_add (de_bin or_mul od_mul (de_bin op_fdivW od_div (de_var 1) (de_gint C.c_WEEK)) (de_b call_len cd_len C.b_len (da_cons (de_ix hr.u1 (de_var 0) (de_int)) (da_nil)))) (de_b call_len cd_len C.b_len (da_cons (de_lc rfl nd (di_str (de_ix hr.u1 (de_var 0) (de_int))) (blkOk_by (own := [("figure", 2)]) rfl) (by decide) (fun s H C0 cl fp => dg_name 2 nd) (fun s H C0 cl fp => dts_one (dt_cmp or_lt od_lt (de_var 2) (de_callH h_figure_of hr (by decide) takes0 (da_cons (de_var 1) (da_nil))) (by rfl))) (fun s H C0 cl fp => de_var 2)) (da_nil)))))
theorem ln_rounds_before : ∀ ds M Q R, S_rounds_before ds M Q R → ds.length = 2 := by
  rintro ds M Q R ⟨_, _, _, rfl, _⟩
  rfl
theorem hs_rounds_before {P : Program} {w : World} {K : PySem.W.Frag} {mg : Str → Option Value} {base : Heap} (C : Fc P w K mg base) (h_figure_of : Has P w K mg base "figure_of" 2 ["day"] S_figure_of) : Has P w K mg base "rounds_before" 3 ["house", "day"] S_rounds_before :=
  has_of C.f_rounds_before sc_rounds_before C.g_rounds_before (fun F => FunD.bindsN F fun _ _ _ _ _ _ us hl => match us, hl with | [_, _], _ => rfl) ln_rounds_before (fun f cdv A outer s H E hr => dv_rounds_before C h_figure_of f cdv A outer s H E hr) kp_rounds_before
theorem sc_waits_at : FnScope ["house", "calendar", "day"] ["house", "calendar", "day"] (defScope (top 53)) := ⟨rfl, rfl, rfl, by decide +kernel, rfl, by decide +kernel, by decide +kernel⟩
theorem dv_waits_at {P : Program} {w : World} {K : PySem.W.Frag} {mg : Str → Option Value} {base : Heap} (C : Fc P w K mg base) (h_waits_behind : Has P w K mg base "waits_behind" 4 ["house", "day", "waits", "is_holiday"] S_waits_behind) (h_waits_ahead : Has P w K mg base "waits_ahead" 6 ["house", "calendar", "goal"] S_waits_ahead) (f : Addr) (cdv : Value) (A : Around) (outer : List PySem.Env) (s : Shared) (H : Hp) (E : XK) (hr : Room 6 (A.deeper (envOfC "waits_at" (defScope (top 53)) s.heap.objs.size f cdv))) :
    DSs (cxOf (L2.CX P w) P w K mg base ["house", "calendar", "day"] "waits_at" (defScope (top 53)) f cdv A outer s H E) (WD E) (defBody (top 53)) t_waits_at := by
  have nd := (sc_waits_at).nd
  have tk : Takes (cxOf (L2.CX P w) P w K mg base ["house", "calendar", "day"] "waits_at" (defScope (top 53)) f cdv A outer s H E) (WD E) := takes_of rfl rfl rfl rfl
  have hp : PassesOwn (model P w) (A.deeper (envOfC "waits_at" (defScope (top 53)) s.heap.objs.size f cdv)) (cxOf (L2.CX P w) P w K mg base ["house", "calendar", "day"] "waits_at" (defScope (top 53)) f cdv A outer s H E).env (cxOf (L2.CX P w) P w K mg base ["house", "calendar", "day"] "waits_at" (defScope (top 53)) f cdv A outer s H E).xe := passes_of rfl
  exact ds_one (ds_ret (de_callH h_waits_behind hr (by decide) tk (da_cons (de_var 0) (da_cons (de_var 2) (da_cons (de_callH h_waits_ahead hr (by decide) tk (da_cons (de_var 0) (da_cons (de_var 1) (da_cons (de_var 2) (da_nil))))) (da_cons (de_cmp (or_in hr.u65) od_in (de_var 2) (de_var 1) (by rfl)) (da_nil)))))))
theorem ln_waits_at : ∀ ds M Q R, S_waits_at ds M Q R → ds.length = 3 := by
  rintro ds M Q R ⟨_, _, _, _, _, rfl, _⟩
  rfl
theorem hs_waits_at {P : Program} {w : World} {K : PySem.W.Frag} {mg : Str → Option Value} {base : Heap} (C : Fc P w K mg base) (h_waits_behind : Has P w K mg base "waits_behind" 4 ["house", "day", "waits", "is_holiday"] S_waits_behind) (h_waits_ahead : Has P w K mg base "waits_ahead" 6 ["house", "calendar", "goal"] S_waits_ahead) : Has P w K mg base "waits_at" 7 ["house", "calendar", "day"] S_waits_at :=
  has_of C.f_waits_at sc_waits_at C.g_waits_at (fun F => FunD.bindsN F fun _ _ _ _ _ _ us hl => match us, hl with | [_, _, _], _ => rfl) ln_waits_at (fun f cdv A outer s H E hr => dv_waits_at C h_waits_behind h_waits_ahead f cdv A outer s H E hr) kp_waits_at
theorem sc_done_by : FnScope ["house", "calendar", "day"] ["house", "calendar", "day"] (defScope (top 54)) := ⟨rfl, rfl, rfl, by decide +kernel, rfl, by decide +kernel, by decide +kernel⟩
theorem dv_done_by {P : Program} {w : World} {K : PySem.W.Frag} {mg : Str → Option Value} {base : Heap} (C : Fc P w K mg base) (h_rounds_before : Has P w K mg base "rounds_before" 3 ["house", "day"] S_rounds_before) (h_waits_at : Has P w K mg base "waits_at" 7 ["house", "calendar", "day"] S_waits_at) (f : Addr) (cdv : Value) (A : Around) (outer : List PySem.Env) (s : Shared) (H : Hp) (E : XK) (hr : Room 7 (A.deeper (envOfC "done_by" (defScope (top 54)) s.heap.objs.size f cdv))) :
    DSs (cxOf (L2.CX P w) P w K mg base ["house", "calendar", "day"] "done_by" (defScope (top 54)) f cdv A outer s H E) (WD E) (defBody (top 54)) t_done_by := by
  have nd := (sc_done_by).nd
  have tk : Takes (cxOf (L2.CX P w) P w K mg base ["house", "calendar", "day"] "done_by" (defScope (top 54)) f cdv A outer s H E) (WD E) := takes_of rfl rfl rfl rfl
  have hp : PassesOwn (model P w) (A.deeper (envOfC "done_by" (defScope (top 54)) s.heap.objs.size f cdv)) (cxOf (L2.CX P w) P w K mg base ["house", "calendar", "day"] "done_by" (defScope (top 54)) f cdv A outer s H E).env (cxOf (L2.CX P w) P w K mg base ["house", "calendar", "day"] "done_by" (defScope (top 54)) f cdv A outer s H E).xe := passes_of rfl
  exact ds_one (ds_ret (de_bin op_sub od_sub (de_callH h_rounds_before hr (by decide) tk (da_cons (de_var 0) (da_cons (de_bin or_add od_add (de_var 2) (de_int)) (da_nil)))) (de_callH h_waits_at hr (by decide) tk (da_cons (de_var 0) (da_cons (de_var 1) (da_cons (de_var 2) (da_nil)))))))
theorem ln_done_by : ∀ ds M Q R, S_done_by ds M Q R → ds.length = 3 := by
  rintro ds M Q R ⟨_, _, _, _, _, rfl, _⟩
  rfl
theorem hs_done_by {P : Program} {w : World} {K : PySem.W.Frag} {mg : Str → Option Value} {base : Heap} (C : Fc P w K mg base) (h_rounds_before : Has P w K mg base "rounds_before" 3 ["house", "day"] S_rounds_before) (h_waits_at : Has P w K mg base "waits_at" 7 ["house", "calendar", "day"] S_waits_at) : Has P w K mg base "done_by" 8 ["house", "calendar", "day"] S_done_by :=
  has_of C.f_done_by sc_done_by C.g_done_by (fun F => FunD.bindsN F fun _ _ _ _ _ _ us hl => match us, hl with | [_, _, _], _ => rfl) ln_done_by (fun f cdv A outer s H E hr => dv_done_by C h_rounds_before h_waits_at f cdv A outer s H E hr) kp_done_by
theorem sc_done_at : FnScope ["house", "calendar", "day", "first"] ["house", "calendar", "day"] (defScope (top 59)) := ⟨rfl, rfl, rfl, by decide +kernel, rfl, by decide +kernel, by decide +kernel⟩
theorem dv_done_at {P : Program} {w : World} {K : PySem.W.Frag} {mg : Str → Option Value} {base : Heap} (C : Fc P w K mg base) (h_need_house : Has P w K mg base "need_house" 4 ["value"] S_need_house) (h_need_calendar : Has P w K mg base "need_calendar" 4 ["value"] S_need_calendar) (h_waits_ahead : Has P w K mg base "waits_ahead" 6 ["house", "calendar", "goal"] S_waits_ahead) (h_need_day : Has P w K mg base "need_day" 3 ["value"] S_need_day) (h_rounds_before : Has P w K mg base "rounds_before" 3 ["house", "day"] S_rounds_before) (h_done_by : Has P w K mg base "done_by" 8 ["house", "calendar", "day"] S_done_by) (f : Addr) (cdv : Value) (A : Around) (outer : List PySem.Env) (s : Shared) (H : Hp) (E : XK) (hr : Room 8 (A.deeper (envOfC "done_at" (defScope (top 59)) s.heap.objs.size f cdv))) :
    DSs (cxOf (L2.CX P w) P w K mg base ["house", "calendar", "day", "first"] "done_at" (defScope (top 59)) f cdv A outer s H E) (WD E) (defBody (top 59)) t_done_at := by
  have nd := (sc_done_at).nd
  have tk : Takes (cxOf (L2.CX P w) P w K mg base ["house", "calendar", "day", "first"] "done_at" (defScope (top 59)) f cdv A outer s H E) (WD E) := takes_of rfl rfl rfl rfl
  have hp : PassesOwn (model P w) (A.deeper (envOfC "done_at" (defScope (top 59)) s.heap.objs.size f cdv)) (cxOf (L2.CX P w) P w K mg base ["house", "calendar", "day", "first"] "done_at" (defScope (top 59)) f cdv A outer s H E).env (cxOf (L2.CX P w) P w K mg base ["house", "calendar", "day", "first"] "done_at" (defScope (top 59)) f cdv A outer s H E).xe := passes_of rfl
  exact ds_cons (ds_expr (de_callH h_need_house hr (by decide) tk (da_cons (de_var 0) (da_nil)))) (ds_cons (ds_expr (de_callH h_need_calendar hr (by decide) tk (da_cons (de_var 1) (da_nil)))) (ds_cons (ds_expr (de_callH h_need_day hr (by decide) tk (da_cons (de_var 2) (da_nil)))) (ds_cons (ds_set 3 nd (de_bin op_sub od_sub (de_callH h_rounds_before hr (by decide) tk (da_cons (de_var 0) (da_cons (de_var 2) (da_nil)))) (de_callH h_waits_ahead hr (by decide) tk (da_cons (de_var 0) (da_cons (de_var 1) (da_cons (de_var 2) (da_nil))))))) (ds_one (ds_ret (de_lsRg2 rfl C.b_list C.b_range (de_var 3) (de_callH h_done_by hr (by decide) tk (da_cons (de_var 0) (da_cons (de_var 1) (da_cons (de_var 2) (da_nil)))))))))))
theorem ln_done_at : ∀ ds M Q R, S_done_at ds M Q R → ds.length = 3 := by
  rintro ds M Q R ⟨_, _, _, _, _, _, _, rfl, _⟩
  rfl
theorem hs_done_at {P : Program} {w : World} {K : PySem.W.Frag} {mg : Str → Option Value} {base : Heap} (C : Fc P w K mg base) (h_need_house : Has P w K mg base "need_house" 4 ["value"] S_need_house) (h_need_calendar : Has P w K mg base "need_calendar" 4 ["value"] S_need_calendar) (h_waits_ahead : Has P w K mg base "waits_ahead" 6 ["house", "calendar", "goal"] S_waits_ahead) (h_need_day : Has P w K mg base "need_day" 3 ["value"] S_need_day) (h_rounds_before : Has P w K mg base "rounds_before" 3 ["house", "day"] S_rounds_before) (h_done_by : Has P w K mg base "done_by" 8 ["house", "calendar", "day"] S_done_by) : Has P w K mg base "done_at" 9 ["house", "calendar", "day"] S_done_at :=
  has_of C.f_done_at sc_done_at C.g_done_at (fun F => FunD.bindsN F fun _ _ _ _ _ _ us hl => match us, hl with | [_, _, _], _ => rfl) ln_done_at (fun f cdv A outer s H E hr => dv_done_at C h_need_house h_need_calendar h_waits_ahead h_need_day h_rounds_before h_done_by f cdv A outer s H E hr) kp_done_at
theorem sc_waiting : FnScope ["house", "calendar", "day"] ["house", "calendar", "day"] (defScope (top 58)) := ⟨rfl, rfl, rfl, by decide +kernel, rfl, by decide +kernel, by decide +kernel⟩
theorem dv_waiting {P : Program} {w : World} {K : PySem.W.Frag} {mg : Str → Option Value} {base : Heap} (C : Fc P w K mg base) (h_need_house : Has P w K mg base "need_house" 4 ["value"] S_need_house) (h_need_calendar : Has P w K mg base "need_calendar" 4 ["value"] S_need_calendar) (h_need_day : Has P w K mg base "need_day" 3 ["value"] S_need_day) (h_waits_at : Has P w K mg base "waits_at" 7 ["house", "calendar", "day"] S_waits_at) (f : Addr) (cdv : Value) (A : Around) (outer : List PySem.Env) (s : Shared) (H : Hp) (E : XK) (hr : Room 7 (A.deeper (envOfC "waiting" (defScope (top 58)) s.heap.objs.size f cdv))) :
    DSs (cxOf (L2.CX P w) P w K mg base ["house", "calendar", "day"] "waiting" (defScope (top 58)) f cdv A outer s H E) (WD E) (defBody (top 58)) t_waiting := by
  have nd := (sc_waiting).nd
  have tk : Takes (cxOf (L2.CX P w) P w K mg base ["house", "calendar", "day"] "waiting" (defScope (top 58)) f cdv A outer s H E) (WD E) := takes_of rfl rfl rfl rfl
  have hp : PassesOwn (model P w) (A.deeper (envOfC "waiting" (defScope (top 58)) s.heap.objs.size f cdv)) (cxOf (L2.CX P w) P w K mg base ["house", "calendar", "day"] "waiting" (defScope (top 58)) f cdv A outer s H E).env (cxOf (L2.CX P w) P w K mg base ["house", "calendar", "day"] "waiting" (defScope (top 58)) f cdv A outer s H E).xe := passes_of rfl
  exact ds_cons (ds_expr (de_callH h_need_house hr (by decide) tk (da_cons (de_var 0) (da_nil)))) (ds_cons (ds_expr (de_callH h_need_calendar hr (by decide) tk (da_cons (de_var 1) (da_nil)))) (ds_cons (ds_expr (de_callH h_need_day hr (by decide) tk (da_cons (de_var 2) (da_nil)))) (ds_one (ds_ret (de_callH h_waits_at hr (by decide) tk (da_cons (de_var 0) (da_cons (de_var 1) (da_cons (de_var 2) (da_nil)))))))))
theorem ln_waiting : ∀ ds M Q R, S_waiting ds M Q R → ds.length = 3 := by
  rintro ds M Q R ⟨_, _, _, _, _, _, rfl, _⟩
  rfl
theorem hs_waiting {P : Program} {w : World} {K : PySem.W.Frag} {mg : Str → Option Value} {base : Heap} (C : Fc P w K mg base) (h_need_house : Has P w K mg base "need_house" 4 ["value"] S_need_house) (h_need_calendar : Has P w K mg base "need_calendar" 4 ["value"] S_need_calendar) (h_need_day : Has P w K mg base "need_day" 3 ["value"] S_need_day) (h_waits_at : Has P w K mg base "waits_at" 7 ["house", "calendar", "day"] S_waits_at) : Has P w K mg base "waiting" 8 ["house", "calendar", "day"] S_waiting :=
  has_of C.f_waiting sc_waiting C.g_waiting (fun F => FunD.bindsN F fun _ _ _ _ _ _ us hl => match us, hl with | [_, _, _], _ => rfl) ln_waiting (fun f cdv A outer s H E hr => dv_waiting C h_need_house h_need_calendar h_need_day h_waits_at f cdv A outer s H E hr) kp_waiting
theorem sc_done_upto : FnScope ["house", "calendar", "day"] ["house", "calendar", "day"] (defScope (top 57)) := ⟨rfl, rfl, rfl, by decide +kernel, rfl, by decide +kernel, by decide +kernel⟩
theorem dv_done_upto {P : Program} {w : World} {K : PySem.W.Frag} {mg : Str → Option Value} {base : Heap} (C : Fc P w K mg base) (h_need_house : Has P w K mg base "need_house" 4 ["value"] S_need_house) (h_need_calendar : Has P w K mg base "need_calendar" 4 ["value"] S_need_calendar) (h_need_day : Has P w K mg base "need_day" 3 ["value"] S_need_day) (h_done_by : Has P w K mg base "done_by" 8 ["house", "calendar", "day"] S_done_by) (f : Addr) (cdv : Value) (A : Around) (outer : List PySem.Env) (s : Shared) (H : Hp) (E : XK) (hr : Room 8 (A.deeper (envOfC "done_upto" (defScope (top 57)) s.heap.objs.size f cdv))) :
    DSs (cxOf (L2.CX P w) P w K mg base ["house", "calendar", "day"] "done_upto" (defScope (top 57)) f cdv A outer s H E) (WD E) (defBody (top 57)) t_done_upto := by
  have nd := (sc_done_upto).nd
  have tk : Takes (cxOf (L2.CX P w) P w K mg base ["house", "calendar", "day"] "done_upto" (defScope (top 57)) f cdv A outer s H E) (WD E) := takes_of rfl rfl rfl rfl
  have hp : PassesOwn (model P w) (A.deeper (envOfC "done_upto" (defScope (top 57)) s.heap.objs.size f cdv)) (cxOf (L2.CX P w) P w K mg base ["house", "calendar", "day"] "done_upto" (defScope (top 57)) f cdv A outer s H E).env (cxOf (L2.CX P w) P w K mg base ["house", "calendar", "day"] "done_upto" (defScope (top 57)) f cdv A outer s H E).xe := passes_of rfl
  exact ds_cons (ds_expr (de_callH h_need_house hr (by decide) tk (da_cons (de_var 0) (da_nil)))) (ds_cons (ds_expr (de_callH h_need_calendar hr (by decide) tk (da_cons (de_var 1) (da_nil)))) (ds_cons (ds_expr (de_callH h_need_day hr (by decide) tk (da_cons (de_var 2) (da_nil)))) (ds_one (ds_ret (de_callH h_done_by hr (by decide) tk (da_cons (de_var 0) (da_cons (de_var 1) (da_cons (de_var 2) (da_nil)))))))))
theorem ln_done_upto : ∀ ds M Q R, S_done_upto ds M Q R → ds.length = 3 := by
  rintro ds M Q R ⟨_, _, _, _, _, _, rfl, _⟩
  rfl
theorem hs_done_upto {P : Program} {w : World} {K : PySem.W.Frag} {mg : Str → Option Value} {base : Heap} (C : Fc P w K mg base) (h_need_house : Has P w K mg base "need_house" 4 ["value"] S_need_house) (h_need_calendar : Has P w K mg base "need_calendar" 4 ["value"] S_need_calendar) (h_need_day : Has P w K mg base "need_day" 3 ["value"] S_need_day) (h_done_by : Has P w K mg base "done_by" 8 ["house", "calendar", "day"] S_done_by) : Has P w K mg base "done_upto" 9 ["house", "calendar", "day"] S_done_upto :=
  has_of C.f_done_upto sc_done_upto C.g_done_upto (fun F => FunD.bindsN F fun _ _ _ _ _ _ us hl => match us, hl with | [_, _, _], _ => rfl) ln_done_upto (fun f cdv A outer s H E hr => dv_done_upto C h_need_house h_need_calendar h_need_day h_done_by f cdv A outer s H E hr) kp_done_upto
theorem sc_round_on : FnScope ["house", "day"] ["house", "day"] (defScope (top 31)) := ⟨rfl, rfl, rfl, by decide +kernel, rfl, by decide +kernel, by decide +kernel⟩
theorem dv_round_on {P : Program} {w : World} {K : PySem.W.Frag} {mg : Str → Option Value} {base : Heap} (C : Fc P w K mg base) (h_need_house : Has P w K mg base "need_house" 4 ["value"] S_need_house) (h_begins_on : Has P w K mg base "begins_on" 3 ["house", "day"] S_begins_on) (h_need_day : Has P w K mg base "need_day" 3 ["value"] S_need_day) (h_rounds_before : Has P w K mg base "rounds_before" 3 ["house", "day"] S_rounds_before) (f : Addr) (cdv : Value) (A : Around) (outer : List PySem.Env) (s : Shared) (H : Hp) (E : XK) (hr : Room 4 (A.deeper (envOfC "round_on" (defScope (top 31)) s.heap.objs.size f cdv))) :
    DSs (cxOf (L2.CX P w) P w K mg base ["house", "day"] "round_on" (defScope (top 31)) f cdv A outer s H E) (WD E) (defBody (top 31)) t_round_on := by
  have nd := (sc_round_on).nd
  have tk : Takes (cxOf (L2.CX P w) P w K mg base ["house", "day"] "round_on" (defScope (top 31)) f cdv A outer s H E) (WD E) := takes_of rfl rfl rfl rfl
  have hp : PassesOwn (model P w) (A.deeper (envOfC "round_on" (defScope (top 31)) s.heap.objs.size f cdv)) (cxOf (L2.CX P w) P w K mg base ["house", "day"] "round_on" (defScope (top 31)) f cdv A outer s H E).env (cxOf (L2.CX P w) P w K mg base ["house", "day"] "round_on" (defScope (top 31)) f cdv A outer s H E).xe := passes_of rfl
  exact ds_cons (ds_expr (de_callH h_need_house hr (by decide) tk (da_cons (de_var 0) (da_nil)))) (ds_cons (ds_expr (de_callH h_need_day hr (by decide) tk (da_cons (de_var 1) (da_nil)))) (ds_one (ds_ret (de_ifE (dt_cmp op_gt od_gt (de_callH h_begins_on hr (by decide) tk (da_cons (de_var 0) (da_cons (de_var 1) (da_nil)))) (de_int) (by rfl)) (de_callH h_rounds_before hr (by decide) tk (da_cons (de_var 0) (da_cons (de_var 1) (da_nil)))) (de_non)))))
theorem ln_round_on : ∀ ds M Q R, S_round_on ds M Q R → ds.length = 2 := by
  rintro ds M Q R ⟨_, _, _, _, _, rfl, _⟩
  rfl
theorem hs_round_on {P : Program} {w : World} {K : PySem.W.Frag} {mg : Str → Option Value} {base : Heap} (C : Fc P w K mg base) (h_need_house : Has P w K mg base "need_house" 4 ["value"] S_need_house) (h_begins_on : Has P w K mg base "begins_on" 3 ["house", "day"] S_begins_on) (h_need_day : Has P w K mg base "need_day" 3 ["value"] S_need_day) (h_rounds_before : Has P w K mg base "rounds_before" 3 ["house", "day"] S_rounds_before) : Has P w K mg base "round_on" 5 ["house", "day"] S_round_on :=
  has_of C.f_round_on sc_round_on C.g_round_on (fun F => FunD.bindsN F fun _ _ _ _ _ _ us hl => match us, hl with | [_, _], _ => rfl) ln_round_on (fun f cdv A outer s H E hr => dv_round_on C h_need_house h_begins_on h_need_day h_rounds_before f cdv A outer s H E hr) kp_round_on
theorem sc_day_of : FnScope ["house", "number"] ["house", "number"] (defScope (top 32)) := ⟨rfl, rfl, rfl, by decide +kernel, rfl, by decide +kernel, by decide +kernel⟩
theorem dv_day_of {P : Program} {w : World} {K : PySem.W.Frag} {mg : Str → Option Value} {base : Heap} (C : Fc P w K mg base) (h_need_house : Has P w K mg base "need_house" 4 ["value"] S_need_house) (h_need_number : Has P w K mg base "need_number" 3 ["value", "low", "high"] S_need_number) (h_day_by : Has P w K mg base "day_by" 2 ["house", "number"] S_day_by) (f : Addr) (cdv : Value) (A : Around) (outer : List PySem.Env) (s : Shared) (H : Hp) (E : XK) (hr : Room 4 (A.deeper (envOfC "day_of" (defScope (top 32)) s.heap.objs.size f cdv))) :
    DSs (cxOf (L2.CX P w) P w K mg base ["house", "number"] "day_of" (defScope (top 32)) f cdv A outer s H E) (WD E) (defBody (top 32)) t_day_of := by
  have nd := (sc_day_of).nd
  have tk : Takes (cxOf (L2.CX P w) P w K mg base ["house", "number"] "day_of" (defScope (top 32)) f cdv A outer s H E) (WD E) := takes_of rfl rfl rfl rfl
  have hp : PassesOwn (model P w) (A.deeper (envOfC "day_of" (defScope (top 32)) s.heap.objs.size f cdv)) (cxOf (L2.CX P w) P w K mg base ["house", "number"] "day_of" (defScope (top 32)) f cdv A outer s H E).env (cxOf (L2.CX P w) P w K mg base ["house", "number"] "day_of" (defScope (top 32)) f cdv A outer s H E).xe := passes_of rfl
  exact ds_cons (ds_expr (de_callH h_need_house hr (by decide) tk (da_cons (de_var 0) (da_nil)))) (ds_cons (ds_expr (de_callH h_need_number hr (by decide) tk (da_cons (de_var 1) (da_cons (de_int) (da_cons (de_gint C.c_GREAT) (da_nil)))))) (ds_one (ds_ret (de_callH h_day_by hr (by decide) tk (da_cons (de_var 0) (da_cons (de_var 1) (da_nil)))))))
theorem ln_day_of : ∀ ds M Q R, S_day_of ds M Q R → ds.length = 2 := by
  rintro ds M Q R ⟨_, _, _, _, _, rfl, _⟩
  rfl
theorem hs_day_of {P : Program} {w : World} {K : PySem.W.Frag} {mg : Str → Option Value} {base : Heap} (C : Fc P w K mg base) (h_need_house : Has P w K mg base "need_house" 4 ["value"] S_need_house) (h_need_number : Has P w K mg base "need_number" 3 ["value", "low", "high"] S_need_number) (h_day_by : Has P w K mg base "day_by" 2 ["house", "number"] S_day_by) : Has P w K mg base "day_of" 5 ["house", "number"] S_day_of :=
  has_of C.f_day_of sc_day_of C.g_day_of (fun F => FunD.bindsN F fun _ _ _ _ _ _ us hl => match us, hl with | [_, _], _ => rfl) ln_day_of (fun f cdv A outer s H E hr => dv_day_of C h_need_house h_need_number h_day_by f cdv A outer s H E hr) kp_day_of
theorem sc_law_week : FnScope ["weeks", "week", "far", "many", "found"] ["weeks"] (defScope (top 78)) := ⟨rfl, rfl, rfl, by decide +kernel, rfl, by decide +kernel, by decide +kernel⟩
theorem dv_law_week {P : Program} {w : World} {K : PySem.W.Frag} {mg : Str → Option Value} {base : Heap} (C : Fc P w K mg base) (h_done_on : Has P w K mg base "done_on" 8 ["house", "calendar", "number"] S_done_on) (h_done_at : Has P w K mg base "done_at" 9 ["house", "calendar", "day"] S_done_at) (h_waiting : Has P w K mg base "waiting" 8 ["house", "calendar", "day"] S_waiting) (h_done_upto : Has P w K mg base "done_upto" 9 ["house", "calendar", "day"] S_done_upto) (h_round_on : Has P w K mg base "round_on" 5 ["house", "day"] S_round_on) (h_day_of : Has P w K mg base "day_of" 5 ["house", "number"] S_day_of) (f : Addr) (cdv : Value) (A : Around) (outer : List PySem.Env) (s : Shared) (H : Hp) (E : XK) (hr : Room 9 (A.deeper (envOfC "_law_week" (defScope (top 78)) s.heap.objs.size f cdv))) :
    DSs (cxOf (L2.CX P w) P w K mg base ["weeks", "week", "far", "many", "found"] "_law_week" (defScope (top 78)) f cdv A outer s H E) (WD E) (defBody (top 78)) t_law_week := by
  have nd := (sc_law_week).nd
  have tk : Takes (cxOf (L2.CX P w) P w K mg base ["weeks", "week", "far", "many", "found"] "_law_week" (defScope (top 78)) f cdv A outer s H E) (WD E) := takes_of rfl rfl rfl rfl
  have hp : PassesOwn (model P w) (A.deeper (envOfC "_law_week" (defScope (top 78)) s.heap.objs.size f cdv)) (cxOf (L2.CX P w) P w K mg base ["weeks", "week", "far", "many", "found"] "_law_week" (defScope (top 78)) f cdv A outer s H E).env (cxOf (L2.CX P w) P w K mg base ["weeks", "week", "far", "many", "found"] "_law_week" (defScope (top 78)) f cdv A outer s H E).xe := passes_of rfl
  exact ds_cons (ds_par3 (i := 1) (j := 2) (l := 3) rfl nd (da_cons (de_tup (da_cons (de_str) (da_cons (de_str) (da_cons (de_int) (da_nil))))) (da_cons (de_bin or_mul od_mul (de_int) (de_var 0)) (da_cons (de_bin or_mul od_mul (de_int) (de_var 0)) (da_nil))))) (ds_cons (ds_set 4 nd (de_new (da_cons (de_cmp (op_eqD hr.u64) od_eq (de_callH h_done_on hr (by decide) tk (da_cons (de_var 1) (da_cons (de_tup (da_cons (de_var 2) (da_nil))) (da_cons (de_bin or_add od_add (de_var 3) (de_int)) (da_nil))))) (de_bin or_add od_add (de_var 2) (de_int)) (by rfl)) (da_cons (de_cmp (op_eqD hr.u64) od_eq (de_callH h_done_on hr (by decide) tk (da_cons (de_var 1) (da_cons (de_tup (da_cons (de_var 2) (da_cons (de_bin or_add od_add (de_var 2) (de_int)) (da_nil)))) (da_cons (de_bin or_add od_add (de_var 3) (de_int)) (da_nil))))) (de_bin or_add od_add (de_var 2) (de_int)) (by rfl)) (da_nil))))) (ds_cons (ds_expr (de_app (de_var 4) (de_cmp (op_eqD hr.u64) od_eq (de_callH h_done_on hr (by decide) tk (da_cons (de_var 1) (da_cons (de_tup (da_cons (de_var 2) (da_cons (de_bin or_add od_add (de_var 2) (de_int)) (da_nil)))) (da_cons (de_bin or_add od_add (de_var 3) (de_int)) (da_nil))))) (de_bin or_add od_add (de_var 2) (de_int)) (by rfl)))) (ds_cons (ds_expr (de_app (de_var 4) (de_cmp (op_eqD hr.u64) od_eq (de_callH h_done_on hr (by decide) tk (da_cons (de_var 1) (da_cons (de_tup (da_cons (de_var 2) (da_cons (de_bin or_add od_add (de_var 2) (de_int)) (da_nil)))) (da_cons (de_bin or_add od_add (de_var 3) (de_int)) (da_nil))))) (de_bin or_add od_add (de_var 2) (de_int)) (by rfl)))) (ds_cons (ds_expr (de_app (de_var 4) (de_and (de_cmp (op_eqD hr.u64) od_eq (de_callH h_done_at hr (by decide) tk (da_cons (de_var 1) (da_cons (de_tup (da_cons (de_var 2) (da_cons (de_bin or_add od_add (de_var 2) (de_int)) (da_nil)))) (da_cons (de_bin or_add od_add (de_var 2) (de_int)) (da_nil))))) (de_lst (da_cons (de_bin or_add od_add (de_var 3) (de_int)) (da_nil))) (by rfl)) (de_and1 (de_cmp (op_eqD hr.u64) od_eq (de_callH h_done_at hr (by decide) tk (da_cons (de_var 1) (da_cons (de_tup (da_cons (de_var 2) (da_cons (de_bin or_add od_add (de_var 2) (de_int)) (da_nil)))) (da_cons (de_bin or_add od_add (de_var 2) (de_int)) (da_nil))))) (de_lst (da_nil)) (by rfl)))))) (ds_cons (ds_expr (de_app (de_var 4) (de_and (de_cmp (op_eqD hr.u64) od_eq (de_callH h_waiting hr (by decide) tk (da_cons (de_var 1) (da_cons (de_tup (da_cons (de_var 2) (da_cons (de_bin or_add od_add (de_var 2) (de_int)) (da_nil)))) (da_cons (de_bin or_add od_add (de_var 2) (de_int)) (da_nil))))) (de_int) (by rfl)) (de_and1 (de_cmp (op_eqD hr.u64) od_eq (de_callH h_done_upto hr (by decide) tk (da_cons (de_var 1) (da_cons (de_tup (da_cons (de_var 2) (da_cons (de_bin or_add od_add (de_var 2) (de_int)) (da_nil)))) (da_cons (de_bin or_add od_add (de_var 2) (de_int)) (da_nil))))) (de_bin or_add od_add (de_var 3) (de_int)) (by rfl)))))) (ds_cons (ds_expr (de_app (de_var 4) (de_cmp (op_eqD hr.u64) od_eq (de_callH h_done_on hr (by decide) tk (da_cons (de_var 1) (da_cons (de_tup (da_cons (de_bin or_add od_add (de_var 2) (de_int)) (da_cons (de_bin or_add od_add (de_var 2) (de_int)) (da_nil)))) (da_cons (de_bin or_add od_add (de_var 3) (de_int)) (da_nil))))) (de_bin or_add od_add (de_var 2) (de_int)) (by rfl)))) (ds_cons (ds_expr (de_app (de_var 4) (de_cmp (op_eqD hr.u64) od_eq (de_callH h_done_on hr (by decide) tk (da_cons (de_var 1) (da_cons (de_tup (da_cons (de_var 2) (da_cons (de_bin or_add od_add (de_var 2) (de_int)) (da_cons (de_bin or_add od_add (de_var 2) (de_int)) (da_nil))))) (da_cons (de_bin or_add od_add (de_var 3) (de_int)) (da_nil))))) (de_bin or_add od_add (de_var 2) (de_int)) (by rfl)))) (ds_cons (ds_expr (de_app (de_var 4) (de_and (de_cmp (op_eqD hr.u64) od_eq (de_callH h_round_on hr (by decide) tk (da_cons (de_var 1) (da_cons (de_bin or_add od_add (de_var 2) (de_int)) (da_nil)))) (de_bin or_add od_add (de_var 3) (de_int)) (by rfl)) (de_and1 (de_cmp or_is od_is (de_callH h_round_on hr (by decide) tk (da_cons (de_var 1) (da_cons (de_bin or_add od_add (de_var 2) (de_int)) (da_nil)))) (de_non) (by rfl)))))) (ds_one (ds_ret (de_bin or_add od_add (de_frz (de_var 4)) (de_lst (da_cons (de_cmp (op_eqD hr.u64) od_eq (de_callH h_day_of hr (by decide) tk (da_cons (de_var 1) (da_cons (de_var 3) (da_nil)))) (de_var 2) (by rfl)) (da_nil))))))))))))))
theorem ln_law_week : ∀ ds M Q R, S_law_week ds M Q R → ds.length = 1 := by
  rintro ds M Q R ⟨_, _, rfl, _⟩
  rfl
theorem hs_law_week {P : Program} {w : World} {K : PySem.W.Frag} {mg : Str → Option Value} {base : Heap} (C : Fc P w K mg base) (h_done_on : Has P w K mg base "done_on" 8 ["house", "calendar", "number"] S_done_on) (h_done_at : Has P w K mg base "done_at" 9 ["house", "calendar", "day"] S_done_at) (h_waiting : Has P w K mg base "waiting" 8 ["house", "calendar", "day"] S_waiting) (h_done_upto : Has P w K mg base "done_upto" 9 ["house", "calendar", "day"] S_done_upto) (h_round_on : Has P w K mg base "round_on" 5 ["house", "day"] S_round_on) (h_day_of : Has P w K mg base "day_of" 5 ["house", "number"] S_day_of) : Has P w K mg base "_law_week" 10 ["weeks"] S_law_week :=
  has_of C.f_law_week sc_law_week C.g_law_week (fun F => FunD.bindsN F fun _ _ _ _ _ _ us hl => match us, hl with | [_], _ => rfl) ln_law_week (fun f cdv A outer s H E hr => dv_law_week C h_done_on h_done_at h_waiting h_done_upto h_round_on h_day_of f cdv A outer s H E hr) kp_law_week
theorem sc_need_kind : FnScope ["most", "weekdays"] ["most", "weekdays"] (defScope (top 24)) := ⟨rfl, rfl, rfl, by decide +kernel, rfl, by decide +kernel, by decide +kernel⟩
theorem dv_need_kind {P : Program} {w : World} {K : PySem.W.Frag} {mg : Str → Option Value} {base : Heap} (C : Fc P w K mg base) (h_are_weekdays : Has P w K mg base "are_weekdays" 2 ["value"] S_are_weekdays) (h_need_number : Has P w K mg base "need_number" 3 ["value", "low", "high"] S_need_number) (f : Addr) (cdv : Value) (A : Around) (outer : List PySem.Env) (s : Shared) (H : Hp) (E : XK) (hr : Room 3 (A.deeper (envOfC "need_kind" (defScope (top 24)) s.heap.objs.size f cdv))) :
    DSs (cxOf (L2.CX P w) P w K mg base ["most", "weekdays"] "need_kind" (defScope (top 24)) f cdv A outer s H E) (WD E) (defBody (top 24)) t_need_kind := by
  have nd := (sc_need_kind).nd
  have tk : Takes (cxOf (L2.CX P w) P w K mg base ["most", "weekdays"] "need_kind" (defScope (top 24)) f cdv A outer s H E) (WD E) := takes_of rfl rfl rfl rfl
  have hp : PassesOwn (model P w) (A.deeper (envOfC "need_kind" (defScope (top 24)) s.heap.objs.size f cdv)) (cxOf (L2.CX P w) P w K mg base ["most", "weekdays"] "need_kind" (defScope (top 24)) f cdv A outer s H E).env (cxOf (L2.CX P w) P w K mg base ["most", "weekdays"] "need_kind" (defScope (top 24)) f cdv A outer s H E).xe := passes_of rfl
  exact ds_cons (ds_expr (de_callH h_need_number hr (by decide) tk (da_cons (de_var 0) (da_cons (de_int) (da_cons (de_gint C.c_WEEK) (da_nil)))))) (ds_one (ds_if (dt_not (dt_val (de_callH h_are_weekdays hr (by decide) tk (da_cons (de_var 1) (da_nil))))) (ds_one (ds_raiseH rfl tk C.g_InvalidWeekdays C.x_InvalidWeekdays)) (ds_nil)))
theorem ln_need_kind : ∀ ds M Q R, S_need_kind ds M Q R → ds.length = 2 := by
  rintro ds M Q R ⟨_, _, _, _, rfl, _⟩
  rfl
theorem hs_need_kind {P : Program} {w : World} {K : PySem.W.Frag} {mg : Str → Option Value} {base : Heap} (C : Fc P w K mg base) (h_are_weekdays : Has P w K mg base "are_weekdays" 2 ["value"] S_are_weekdays) (h_need_number : Has P w K mg base "need_number" 3 ["value", "low", "high"] S_need_number) : Has P w K mg base "need_kind" 4 ["most", "weekdays"] S_need_kind :=
  has_of C.f_need_kind sc_need_kind C.g_need_kind (fun F => FunD.bindsN F fun _ _ _ _ _ _ us hl => match us, hl with | [_, _], _ => rfl) ln_need_kind (fun f cdv A outer s H E hr => dv_need_kind C h_are_weekdays h_need_number f cdv A outer s H E hr) kp_need_kind
theorem sc_grows : FnScope ["house", "most", "weekdays", "lost", "figure"] ["house", "most", "weekdays"] (defScope (top 44)) := ⟨rfl, rfl, rfl, by decide +kernel, rfl, by decide +kernel, by decide +kernel⟩
theorem dv_grows {P : Program} {w : World} {K : PySem.W.Frag} {mg : Str → Option Value} {base : Heap} (C : Fc P w K mg base)  (f : Addr) (cdv : Value) (A : Around) (outer : List PySem.Env) (s : Shared) (H : Hp) (E : XK) (hr : Room 1 (A.deeper (envOfC "grows" (defScope (top 44)) s.heap.objs.size f cdv))) :
    DSs (cxOf (L2.CX P w) P w K mg base ["house", "most", "weekdays", "lost", "figure"] "grows" (defScope (top 44)) f cdv A outer s H E) (WD E) (defBody (top 44)) t_grows := by
  have nd := (sc_grows).nd
  have tk : Takes (cxOf (L2.CX P w) P w K mg base ["house", "most", "weekdays", "lost", "figure"] "grows" (defScope (top 44)) f cdv A outer s H E) (WD E) := takes_of rfl rfl rfl rfl
  have hp : PassesOwn (model P w) (A.deeper (envOfC "grows" (defScope (top 44)) s.heap.objs.size f cdv)) (cxOf (L2.CX P w) P w K mg base ["house", "most", "weekdays", "lost", "figure"] "grows" (defScope (top 44)) f cdv A outer s H E).env (cxOf (L2.CX P w) P w K mg base ["house", "most", "weekdays", "lost", "figure"] "grows" (defScope (top 44)) f cdv A outer s H E).xe := passes_of rfl
  exact ds_cons (ds_set 3 nd (de_b (cr_minU rfl) cd_min C.b_min (da_cons (de_var 1) (da_cons (de_b call_len cd_len C.b_len (da_cons (de_lc rfl nd (di_str (de_var 2)) (blkOk_by (own := [("figure", 4)]) rfl) (by decide) (fun s H C0 cl fp => dg_name 4 nd) (fun s H C0 cl fp => dts_one (dt_cmp (or_in hr.u65) od_in (de_var 4) (de_ix hr.u1 (de_var 0) (de_int)) (by rfl))) (fun s H C0 cl fp => de_var 4)) (da_nil))) (da_nil))))) (ds_one (ds_ret (de_cmp op_gt od_gt (de_b call_len cd_len C.b_len (da_cons (de_ix hr.u1 (de_var 0) (de_int)) (da_nil))) (de_bin or_mul od_mul (de_ix hr.u1 (de_var 0) (de_int)) (de_bin op_sub od_sub (de_b call_len cd_len C.b_len (da_cons (de_ix hr.u1 (de_var 0) (de_int)) (da_nil))) (de_var 3))) (by rfl))))
theorem ln_grows : ∀ ds M Q R, S_grows ds M Q R → ds.length = 3 := by
  rintro ds M Q R ⟨_, _, _, _, _, _, _, rfl, _⟩
  rfl
theorem hs_grows {P : Program} {w : World} {K : PySem.W.Frag} {mg : Str → Option Value} {base : Heap} (C : Fc P w K mg base)  : Has P w K mg base "grows" 2 ["house", "most", "weekdays"] S_grows :=
  has_of C.f_grows sc_grows C.g_grows (fun F => FunD.bindsN F fun _ _ _ _ _ _ us hl => match us, hl with | [_, _, _], _ => rfl) ln_grows (fun f cdv A outer s H E hr => dv_grows C  f cdv A outer s H E hr) kp_grows
theorem sc_late_by : FnScope ["house", "day", "waits", "first"] ["house", "day", "waits"] (defScope (top 45)) := ⟨rfl, rfl, rfl, by decide +kernel, rfl, by decide +kernel, by decide +kernel⟩
theorem dv_late_by {P : Program} {w : World} {K : PySem.W.Frag} {mg : Str → Option Value} {base : Heap} (C : Fc P w K mg base) (h_day_by : Has P w K mg base "day_by" 2 ["house", "number"] S_day_by) (h_rounds_before : Has P w K mg base "rounds_before" 3 ["house", "day"] S_rounds_before) (f : Addr) (cdv : Value) (A : Around) (outer : List PySem.Env) (s : Shared) (H : Hp) (E : XK) (hr : Room 3 (A.deeper (envOfC "late_by" (defScope (top 45)) s.heap.objs.size f cdv))) :
    DSs (cxOf (L2.CX P w) P w K mg base ["house", "day", "waits", "first"] "late_by" (defScope (top 45)) f cdv A outer s H E) (WD E) (defBody (top 45)) t_late_by := by
  have nd := (sc_late_by).nd
  have tk : Takes (cxOf (L2.CX P w) P w K mg base ["house", "day", "waits", "first"] "late_by" (defScope (top 45)) f cdv A outer s H E) (WD E) := takes_of rfl rfl rfl rfl
  have hp : PassesOwn (model P w) (A.deeper (envOfC "late_by" (defScope (top 45)) s.heap.objs.size f cdv)) (cxOf (L2.CX P w) P w K mg base ["house", "day", "waits", "first"] "late_by" (defScope (top 45)) f cdv A outer s H E).env (cxOf (L2.CX P w) P w K mg base ["house", "day", "waits", "first"] "late_by" (defScope (top 45)) f cdv A outer s H E).xe := passes_of rfl
  exact ds_cons (ds_set 3 nd (de_bin op_sub od_sub (de_callH h_rounds_before hr (by decide) tk (da_cons (de_var 0) (da_cons (de_bin or_add od_add (de_bin or_add od_add (de_gint C.c_LONG_latest) (de_var 1)) (de_int)) (da_nil)))) (de_var 2))) (ds_one (ds_ret (de_bin op_sub od_sub (de_bin or_add od_add (de_gint C.c_LONG_latest) (de_var 1)) (de_callH h_day_by hr (by decide) tk (da_cons (de_var 0) (da_cons (de_var 3) (da_nil)))))))
theorem ln_late_by : ∀ ds M Q R, S_late_by ds M Q R → ds.length = 3 := by
  rintro ds M Q R ⟨_, _, _, _, rfl, _⟩
  rfl
theorem hs_late_by {P : Program} {w : World} {K : PySem.W.Frag} {mg : Str → Option Value} {base : Heap} (C : Fc P w K mg base) (h_day_by : Has P w K mg base "day_by" 2 ["house", "number"] S_day_by) (h_rounds_before : Has P w K mg base "rounds_before" 3 ["house", "day"] S_rounds_before) : Has P w K mg base "late_by" 4 ["house", "day", "waits"] S_late_by :=
  has_of C.f_late_by sc_late_by C.g_late_by (fun F => FunD.bindsN F fun _ _ _ _ _ _ us hl => match us, hl with | [_, _, _], _ => rfl) ln_late_by (fun f cdv A outer s H E hr => dv_late_by C h_day_by h_rounds_before f cdv A outer s H E hr) kp_late_by
theorem sc_next_stands : FnScope ["house", "stand", "most", "weekdays", "weekday", "waits", "marks", "found", "is_holiday", "done", "late"] ["house", "stand", "most", "weekdays"] (defScope (top 46)) := ⟨rfl, rfl, rfl, by decide +kernel, rfl, by decide +kernel, by decide +kernel⟩
theorem dv_next_stands {P : Program} {w : World} {K : PySem.W.Frag} {mg : Str → Option Value} {base : Heap} (C : Fc P w K mg base) (h_begins_on : Has P w K mg base "begins_on" 3 ["house", "day"] S_begins_on) (h_most_done : Has P w K mg base "most_done" 3 ["house", "day", "is_holiday"] S_most_done) (h_late_by : Has P w K mg base "late_by" 4 ["house", "day", "waits"] S_late_by) (f : Addr) (cdv : Value) (A : Around) (outer : List PySem.Env) (s : Shared) (H : Hp) (E : XK) (hr : Room 4 (A.deeper (envOfC "next_stands" (defScope (top 46)) s.heap.objs.size f cdv))) :
    DSs (cxOf (L2.CX P w) P w K mg base ["house", "stand", "most", "weekdays", "weekday", "waits", "marks", "found", "is_holiday", "done", "late"] "next_stands" (defScope (top 46)) f cdv A outer s H E) (WD E) (defBody (top 46)) t_next_stands := by
  have nd := (sc_next_stands).nd
  have tk : Takes (cxOf (L2.CX P w) P w K mg base ["house", "stand", "most", "weekdays", "weekday", "waits", "marks", "found", "is_holiday", "done", "late"] "next_stands" (defScope (top 46)) f cdv A outer s H E) (WD E) := takes_of rfl rfl rfl rfl
  have hp : PassesOwn (model P w) (A.deeper (envOfC "next_stands" (defScope (top 46)) s.heap.objs.size f cdv)) (cxOf (L2.CX P w) P w K mg base ["house", "stand", "most", "weekdays", "weekday", "waits", "marks", "found", "is_holiday", "done", "late"] "next_stands" (defScope (top 46)) f cdv A outer s H E).env (cxOf (L2.CX P w) P w K mg base ["house", "stand", "most", "weekdays", "weekday", "waits", "marks", "found", "is_holiday", "done", "late"] "next_stands" (defScope (top 46)) f cdv A outer s H E).xe := passes_of rfl
  exact ds_cons (ds_asg (de_var 1) (dg_tup rfl (goes_cons (goes_name 4) (goes_cons (goes_name 5) (goes_cons (goes_name 6) (goes_nil)))) (dgs_cons (dg_name 4 nd) (dgs_cons (dg_name 5 nd) (dgs_cons (dg_name 6 nd) (dgs_nil)))))) (ds_cons (ds_if (dt_cmp (op_eqD hr.u64) od_eq (de_var 4) (de_int) (by rfl)) (ds_one (ds_set 6 nd (de_int))) (ds_nil)) (ds_cons (ds_aug 5 nd ip_add od_ipadd (de_callH h_begins_on hr (by decide) tk (da_cons (de_var 0) (da_cons (de_var 4) (da_nil))))) (ds_cons (ds_set 7 nd (de_new (da_nil))) (ds_cons (ds_for hp rfl (di_tup (de_tup (da_cons (de_bl) (da_cons (de_bl) (da_nil))))) (dg_name 8 nd) (ds_one (ds_if ((dw_or (dt_not (dt_val (de_var 8))) (dw_or1 ((dw_and (dt_cmp (or_in hr.u65) od_in (de_ty cr_str cd_str C.b_str (da_cons (de_var 4) (da_nil))) (de_var 3) (by rfl)) (dw_and1 (dt_cmp or_lt od_lt (de_var 6) (de_var 2) (by rfl)))).pt))).pt) (ds_cons (ds_set 9 nd (de_b (cr_minU rfl) cd_min C.b_min (da_cons (de_var 5) (da_cons (de_callH h_most_done hr (by decide) tk (da_cons (de_var 0) (da_cons (de_var 4) (da_cons (de_var 8) (da_nil))))) (da_nil))))) (ds_cons (ds_set 10 nd (de_ifE (dt_cmp op_gt od_gt (de_var 9) (de_int) (by rfl)) (de_callH h_late_by hr (by decide) tk (da_cons (de_var 0) (da_cons (de_var 4) (da_cons (de_var 5) (da_nil))))) (de_int))) (ds_one (ds_expr (de_app (de_var 7) (de_tup (da_cons (de_tup (da_cons (de_bin op_mod od_mod (de_bin or_add od_add (de_var 4) (de_int)) (de_gint C.c_WEEK)) (da_cons (de_bin op_sub od_sub (de_var 5) (de_var 9)) (da_cons (de_bin or_add od_add (de_var 6) (de_ty cr_int cd_int C.b_int (da_cons (de_var 8) (da_nil)))) (da_nil))))) (da_cons (de_var 10) (da_nil))))))))) (ds_nil)))) (ds_one (ds_ret (de_frz (de_var 7))))))))
theorem ln_next_stands : ∀ ds M Q R, S_next_stands ds M Q R → ds.length = 4 := by
  rintro ds M Q R ⟨_, _, _, _, _, _, rfl, _⟩
  rfl
theorem hs_next_stands {P : Program} {w : World} {K : PySem.W.Frag} {mg : Str → Option Value} {base : Heap} (C : Fc P w K mg base) (h_begins_on : Has P w K mg base "begins_on" 3 ["house", "day"] S_begins_on) (h_most_done : Has P w K mg base "most_done" 3 ["house", "day", "is_holiday"] S_most_done) (h_late_by : Has P w K mg base "late_by" 4 ["house", "day", "waits"] S_late_by) : Has P w K mg base "next_stands" 5 ["house", "stand", "most", "weekdays"] S_next_stands :=
  has_of C.f_next_stands sc_next_stands C.g_next_stands (fun F => FunD.bindsN F fun _ _ _ _ _ _ us hl => match us, hl with | [_, _, _, _], _ => rfl) ln_next_stands (fun f cdv A outer s H E hr => dv_next_stands C h_begins_on h_most_done h_late_by f cdv A outer s H E hr) kp_next_stands
theorem sc_greatest_by : FnScope ["house", "most", "weekdays", "line", "known", "late", "waits", "later", "stand", "there", "more"] ["house", "most", "weekdays"] (defScope (top 47)) := ⟨rfl, rfl, rfl, by decide +kernel, rfl, by decide +kernel, by decide +kernel⟩
theorem dv_greatest_by {P : Program} {w : World} {K : PySem.W.Frag} {mg : Str → Option Value} {base : Heap} (C : Fc P w K mg base) (h_grows : Has P w K mg base "grows" 2 ["house", "most", "weekdays"] S_grows) (h_next_stands : Has P w K mg base "next_stands" 5 ["house", "stand", "most", "weekdays"] S_next_stands) (f : Addr) (cdv : Value) (A : Around) (outer : List PySem.Env) (s : Shared) (H : Hp) (E : XK) (hr : Room 5 (A.deeper (envOfC "greatest_by" (defScope (top 47)) s.heap.objs.size f cdv))) :
    DSs (cxOf (L2.CX P w) P w K mg base ["house", "most", "weekdays", "line", "known", "late", "waits", "later", "stand", "there", "more"] "greatest_by" (defScope (top 47)) f cdv A outer s H E) (WD E) (defBody (top 47)) t_greatest_by := by
  have nd := (sc_greatest_by).nd
  have tk : Takes (cxOf (L2.CX P w) P w K mg base ["house", "most", "weekdays", "line", "known", "late", "waits", "later", "stand", "there", "more"] "greatest_by" (defScope (top 47)) f cdv A outer s H E) (WD E) := takes_of rfl rfl rfl rfl
  have hp : PassesOwn (model P w) (A.deeper (envOfC "greatest_by" (defScope (top 47)) s.heap.objs.size f cdv)) (cxOf (L2.CX P w) P w K mg base ["house", "most", "weekdays", "line", "known", "late", "waits", "later", "stand", "there", "more"] "greatest_by" (defScope (top 47)) f cdv A outer s H E).env (cxOf (L2.CX P w) P w K mg base ["house", "most", "weekdays", "line", "known", "late", "waits", "later", "stand", "there", "more"] "greatest_by" (defScope (top 47)) f cdv A outer s H E).xe := passes_of rfl
  exact ds_cons (ds_if (dt_val (de_callH h_grows hr (by decide) tk (da_cons (de_var 0) (da_cons (de_var 1) (da_cons (de_var 2) (da_nil)))))) (ds_one (ds_ret (de_non))) (ds_nil)) (ds_cons (ds_asg (de_tup (da_cons (de_lst (da_cons (de_tup (da_cons (de_int) (da_cons (de_int) (da_cons (de_int) (da_nil))))) (da_nil))) (da_cons (de_oneT hr.u0 (de_tup (da_cons (de_int) (da_cons (de_int) (da_cons (de_int) (da_nil))))) (de_bl)) (da_cons (de_int) (da_cons (de_int) (da_nil)))))) (dg_tup rfl (goes_cons (goes_name 3) (goes_cons (goes_name 4) (goes_cons (goes_name 5) (goes_cons (goes_name 6) (goes_nil))))) (dgs_cons (dg_name 3 nd) (dgs_cons (dg_name 4 nd) (dgs_cons (dg_name 5 nd) (dgs_cons (dg_name 6 nd) (dgs_nil))))))) (ds_cons (ds_while hp (dt_cmp (op_neD hr.u64) od_ne (de_var 3) (de_lst (da_nil)) (by rfl)) (ds_cons (ds_set 7 nd (de_new (da_nil))) (ds_cons (ds_for hp rfl (di_lst (de_var 3)) (dg_name 8 nd) (ds_one (ds_for hp rfl (di_lst (de_callH h_next_stands hr (by decide) tk (da_cons (de_var 0) (da_cons (de_var 8) (da_cons (de_var 1) (da_cons (de_var 2) (da_nil))))))) (dg_tup rfl (goes_cons (goes_name 9) (goes_cons (goes_name 10) (goes_nil))) (dgs_cons (dg_name 9 nd) (dgs_cons (dg_name 10 nd) (dgs_nil)))) (ds_cons (ds_par2 (i := 5) (j := 6) rfl nd (da_cons (de_b (cr_maxU rfl) cd_max C.b_max (da_cons (de_var 5) (da_cons (de_var 10) (da_nil)))) (da_cons (de_b (cr_maxU rfl) cd_max C.b_max (da_cons (de_var 6) (da_cons (de_ix hr.u1 (de_var 9) (de_int)) (da_nil)))) (da_nil)))) (ds_one (ds_if (dt_cmp (or_notin hr.u65) od_notin (de_var 9) (de_var 4) (by rfl)) (ds_cons (ds_put hr.u1 (de_var 4) (de_var 9) (de_bl)) (ds_one (ds_expr (de_app (de_var 7) (de_var 9))))) (ds_nil))))))) (ds_one (ds_set 3 nd (de_frz (de_var 7))))))) (ds_one (ds_ret (de_tup (da_cons (de_var 5) (da_cons (de_var 6) (da_nil))))))))
theorem ln_greatest_by : ∀ ds M Q R, S_greatest_by ds M Q R → ds.length = 3 := by
  rintro ds M Q R ⟨_, _, _, _, _, _, _, rfl, _⟩
  rfl
theorem hs_greatest_by {P : Program} {w : World} {K : PySem.W.Frag} {mg : Str → Option Value} {base : Heap} (C : Fc P w K mg base) (h_grows : Has P w K mg base "grows" 2 ["house", "most", "weekdays"] S_grows) (h_next_stands : Has P w K mg base "next_stands" 5 ["house", "stand", "most", "weekdays"] S_next_stands) : Has P w K mg base "greatest_by" 6 ["house", "most", "weekdays"] S_greatest_by :=
  has_of C.f_greatest_by sc_greatest_by C.g_greatest_by (fun F => FunD.bindsN F fun _ _ _ _ _ _ us hl => match us, hl with | [_, _, _], _ => rfl) ln_greatest_by (fun f cdv A outer s H E hr => dv_greatest_by C h_grows h_next_stands f cdv A outer s H E hr) kp_greatest_by
theorem sc_latest : FnScope ["house", "most", "weekdays", "found"] ["house", "most", "weekdays"] (defScope (top 48)) := ⟨rfl, rfl, rfl, by decide +kernel, rfl, by decide +kernel, by decide +kernel⟩
theorem dv_latest {P : Program} {w : World} {K : PySem.W.Frag} {mg : Str → Option Value} {base : Heap} (C : Fc P w K mg base) (h_need_house : Has P w K mg base "need_house" 4 ["value"] S_need_house) (h_need_kind : Has P w K mg base "need_kind" 4 ["most", "weekdays"] S_need_kind) (h_greatest_by : Has P w K mg base "greatest_by" 6 ["house", "most", "weekdays"] S_greatest_by) (f : Addr) (cdv : Value) (A : Around) (outer : List PySem.Env) (s : Shared) (H : Hp) (E : XK) (hr : Room 6 (A.deeper (envOfC "latest" (defScope (top 48)) s.heap.objs.size f cdv))) :
    DSs (cxOf (L2.CX P w) P w K mg base ["house", "most", "weekdays", "found"] "latest" (defScope (top 48)) f cdv A outer s H E) (WD E) (defBody (top 48)) t_latest := by
  have nd := (sc_latest).nd
  have tk : Takes (cxOf (L2.CX P w) P w K mg base ["house", "most", "weekdays", "found"] "latest" (defScope (top 48)) f cdv A outer s H E) (WD E) := takes_of rfl rfl rfl rfl
  have hp : PassesOwn (model P w) (A.deeper (envOfC "latest" (defScope (top 48)) s.heap.objs.size f cdv)) (cxOf (L2.CX P w) P w K mg base ["house", "most", "weekdays", "found"] "latest" (defScope (top 48)) f cdv A outer s H E).env (cxOf (L2.CX P w) P w K mg base ["house", "most", "weekdays", "found"] "latest" (defScope (top 48)) f cdv A outer s H E).xe := passes_of rfl
  exact ds_cons (ds_expr (de_callH h_need_house hr (by decide) tk (da_cons (de_var 0) (da_nil)))) (ds_cons (ds_expr (de_callH h_need_kind hr (by decide) tk (da_cons (de_var 1) (da_cons (de_var 2) (da_nil))))) (ds_cons (ds_set 3 nd (de_callH h_greatest_by hr (by decide) tk (da_cons (de_var 0) (da_cons (de_var 1) (da_cons (de_var 2) (da_nil)))))) (ds_one (ds_ret (de_ifE (dt_cmp or_is od_is (de_var 3) (de_non) (by rfl)) (de_non) (de_ix hr.u1 (de_var 3) (de_int)))))))
theorem ln_latest : ∀ ds M Q R, S_latest ds M Q R → ds.length = 3 := by
  rintro ds M Q R ⟨_, _, _, _, _, _, _, rfl, _⟩
  rfl
theorem hs_latest {P : Program} {w : World} {K : PySem.W.Frag} {mg : Str → Option Value} {base : Heap} (C : Fc P w K mg base) (h_need_house : Has P w K mg base "need_house" 4 ["value"] S_need_house) (h_need_kind : Has P w K mg base "need_kind" 4 ["most", "weekdays"] S_need_kind) (h_greatest_by : Has P w K mg base "greatest_by" 6 ["house", "most", "weekdays"] S_greatest_by) : Has P w K mg base "latest" 7 ["house", "most", "weekdays"] S_latest :=
  has_of C.f_latest sc_latest C.g_latest (fun F => FunD.bindsN F fun _ _ _ _ _ _ us hl => match us, hl with | [_, _, _], _ => rfl) ln_latest (fun f cdv A outer s H E hr => dv_latest C h_need_house h_need_kind h_greatest_by f cdv A outer s H E hr) kp_latest
theorem sc_most_waiting : FnScope ["house", "most", "weekdays", "found"] ["house", "most", "weekdays"] (defScope (top 49)) := ⟨rfl, rfl, rfl, by decide +kernel, rfl, by decide +kernel, by decide +kernel⟩
theorem dv_most_waiting {P : Program} {w : World} {K : PySem.W.Frag} {mg : Str → Option Value} {base : Heap} (C : Fc P w K mg base) (h_need_house : Has P w K mg base "need_house" 4 ["value"] S_need_house) (h_need_kind : Has P w K mg base "need_kind" 4 ["most", "weekdays"] S_need_kind) (h_greatest_by : Has P w K mg base "greatest_by" 6 ["house", "most", "weekdays"] S_greatest_by) (f : Addr) (cdv : Value) (A : Around) (outer : List PySem.Env) (s : Shared) (H : Hp) (E : XK) (hr : Room 6 (A.deeper (envOfC "most_waiting" (defScope (top 49)) s.heap.objs.size f cdv))) :
    DSs (cxOf (L2.CX P w) P w K mg base ["house", "most", "weekdays", "found"] "most_waiting" (defScope (top 49)) f cdv A outer s H E) (WD E) (defBody (top 49)) t_most_waiting := by
  have nd := (sc_most_waiting).nd
  have tk : Takes (cxOf (L2.CX P w) P w K mg base ["house", "most", "weekdays", "found"] "most_waiting" (defScope (top 49)) f cdv A outer s H E) (WD E) := takes_of rfl rfl rfl rfl
  have hp : PassesOwn (model P w) (A.deeper (envOfC "most_waiting" (defScope (top 49)) s.heap.objs.size f cdv)) (cxOf (L2.CX P w) P w K mg base ["house", "most", "weekdays", "found"] "most_waiting" (defScope (top 49)) f cdv A outer s H E).env (cxOf (L2.CX P w) P w K mg base ["house", "most", "weekdays", "found"] "most_waiting" (defScope (top 49)) f cdv A outer s H E).xe := passes_of rfl
  exact ds_cons (ds_expr (de_callH h_need_house hr (by decide) tk (da_cons (de_var 0) (da_nil)))) (ds_cons (ds_expr (de_callH h_need_kind hr (by decide) tk (da_cons (de_var 1) (da_cons (de_var 2) (da_nil))))) (ds_cons (ds_set 3 nd (de_callH h_greatest_by hr (by decide) tk (da_cons (de_var 0) (da_cons (de_var 1) (da_cons (de_var 2) (da_nil)))))) (ds_one (ds_ret (de_ifE (dt_cmp or_is od_is (de_var 3) (de_non) (by rfl)) (de_non) (de_ix hr.u1 (de_var 3) (de_int)))))))
theorem ln_most_waiting : ∀ ds M Q R, S_most_waiting ds M Q R → ds.length = 3 := by
  rintro ds M Q R ⟨_, _, _, _, _, _, _, rfl, _⟩
  rfl
theorem hs_most_waiting {P : Program} {w : World} {K : PySem.W.Frag} {mg : Str → Option Value} {base : Heap} (C : Fc P w K mg base) (h_need_house : Has P w K mg base "need_house" 4 ["value"] S_need_house) (h_need_kind : Has P w K mg base "need_kind" 4 ["most", "weekdays"] S_need_kind) (h_greatest_by : Has P w K mg base "greatest_by" 6 ["house", "most", "weekdays"] S_greatest_by) : Has P w K mg base "most_waiting" 7 ["house", "most", "weekdays"] S_most_waiting :=
  has_of C.f_most_waiting sc_most_waiting C.g_most_waiting (fun F => FunD.bindsN F fun _ _ _ _ _ _ us hl => match us, hl with | [_, _, _], _ => rfl) ln_most_waiting (fun f cdv A outer s H E hr => dv_most_waiting C h_need_house h_need_kind h_greatest_by f cdv A outer s H E hr) kp_most_waiting
theorem sc_all_quiet : FnScope ["house", "stands", "line", "known", "stand", "later", "weekday", "waits", "there"] ["house", "stands"] (defScope (top 37)) := ⟨rfl, rfl, rfl, by decide +kernel, rfl, by decide +kernel, by decide +kernel⟩
theorem dv_all_quiet {P : Program} {w : World} {K : PySem.W.Frag} {mg : Str → Option Value} {base : Heap} (C : Fc P w K mg base) (h_begins_on : Has P w K mg base "begins_on" 3 ["house", "day"] S_begins_on) (h_most_done : Has P w K mg base "most_done" 3 ["house", "day", "is_holiday"] S_most_done) (f : Addr) (cdv : Value) (A : Around) (outer : List PySem.Env) (s : Shared) (H : Hp) (E : XK) (hr : Room 3 (A.deeper (envOfC "all_quiet" (defScope (top 37)) s.heap.objs.size f cdv))) :
    DSs (cxOf (L2.CX P w) P w K mg base ["house", "stands", "line", "known", "stand", "later", "weekday", "waits", "there"] "all_quiet" (defScope (top 37)) f cdv A outer s H E) (WD E) (defBody (top 37)) t_all_quiet := by
  have nd := (sc_all_quiet).nd
  have tk : Takes (cxOf (L2.CX P w) P w K mg base ["house", "stands", "line", "known", "stand", "later", "weekday", "waits", "there"] "all_quiet" (defScope (top 37)) f cdv A outer s H E) (WD E) := takes_of rfl rfl rfl rfl
  have hp : PassesOwn (model P w) (A.deeper (envOfC "all_quiet" (defScope (top 37)) s.heap.objs.size f cdv)) (cxOf (L2.CX P w) P w K mg base ["house", "stands", "line", "known", "stand", "later", "weekday", "waits", "there"] "all_quiet" (defScope (top 37)) f cdv A outer s H E).env (cxOf (L2.CX P w) P w K mg base ["house", "stands", "line", "known", "stand", "later", "weekday", "waits", "there"] "all_quiet" (defScope (top 37)) f cdv A outer s H E).xe := passes_of rfl
  exact ds_cons (ds_par2 (i := 2) (j := 3) rfl nd (da_cons (de_ty call_list_of cd_list C.b_list (da_cons (de_var 1) (da_nil))) (da_cons (de_newT) (da_nil)))) (ds_cons (ds_for hp rfl (di_lst (de_var 1)) (dg_name 4 nd) (ds_one (ds_put hr.u1 (de_var 3) (de_var 4) (de_bl)))) (ds_cons (ds_while hp (dt_cmp (op_neD hr.u64) od_ne (de_var 2) (de_lst (da_nil)) (by rfl)) (ds_cons (ds_set 5 nd (de_new (da_nil))) (ds_cons (ds_for hp rfl (di_lst (de_var 2)) (dg_tup rfl (goes_cons (goes_name 6) (goes_cons (goes_name 7) (goes_nil))) (dgs_cons (dg_name 6 nd) (dgs_cons (dg_name 7 nd) (dgs_nil)))) (ds_cons (ds_aug 7 nd ip_add od_ipadd (de_callH h_begins_on hr (by decide) tk (da_cons (de_var 0) (da_cons (de_var 6) (da_nil))))) (ds_cons (ds_set 8 nd (de_tup (da_cons (de_bin op_mod od_mod (de_bin or_add od_add (de_var 6) (de_int)) (de_gint C.c_WEEK)) (da_cons (de_bin op_sub od_sub (de_var 7) (de_b (cr_minU rfl) cd_min C.b_min (da_cons (de_var 7) (da_cons (de_callH h_most_done hr (by decide) tk (da_cons (de_var 0) (da_cons (de_var 6) (da_cons (de_bl) (da_nil))))) (da_nil))))) (da_nil))))) (ds_one (ds_if (dt_cmp (or_notin hr.u65) od_notin (de_var 8) (de_var 3) (by rfl)) (ds_cons (ds_put hr.u1 (de_var 3) (de_var 8) (de_bl)) (ds_one (ds_expr (de_app (de_var 5) (de_var 8))))) (ds_nil)))))) (ds_one (ds_set 2 nd (de_frz (de_var 5))))))) (ds_one (ds_ret (de_b (cr_sortK rfl hr.u70) cd_sortK C.b_sorted (da_cons (de_var 3) da_nil))))))
theorem ln_all_quiet : ∀ ds M Q R, S_all_quiet ds M Q R → ds.length = 2 := by
  rintro ds M Q R ⟨_, _, _, _, _, _, rfl, _⟩
  rfl
theorem hs_all_quiet {P : Program} {w : World} {K : PySem.W.Frag} {mg : Str → Option Value} {base : Heap} (C : Fc P w K mg base) (h_begins_on : Has P w K mg base "begins_on" 3 ["house", "day"] S_begins_on) (h_most_done : Has P w K mg base "most_done" 3 ["house", "day", "is_holiday"] S_most_done) : Has P w K mg base "all_quiet" 4 ["house", "stands"] S_all_quiet :=
  has_of C.f_all_quiet sc_all_quiet C.g_all_quiet (fun F => FunD.bindsN F fun _ _ _ _ _ _ us hl => match us, hl with | [_, _], _ => rfl) ln_all_quiet (fun f cdv A outer s H E hr => dv_all_quiet C h_begins_on h_most_done f cdv A outer s H E hr) kp_all_quiet
theorem sc_is_late : FnScope ["house", "weekday", "waits", "late", "first"] ["house", "weekday", "waits", "late"] (defScope (top 36)) := ⟨rfl, rfl, rfl, by decide +kernel, rfl, by decide +kernel, by decide +kernel⟩
theorem dv_is_late {P : Program} {w : World} {K : PySem.W.Frag} {mg : Str → Option Value} {base : Heap} (C : Fc P w K mg base) (h_day_by : Has P w K mg base "day_by" 2 ["house", "number"] S_day_by) (h_rounds_before : Has P w K mg base "rounds_before" 3 ["house", "day"] S_rounds_before) (f : Addr) (cdv : Value) (A : Around) (outer : List PySem.Env) (s : Shared) (H : Hp) (E : XK) (hr : Room 3 (A.deeper (envOfC "is_late" (defScope (top 36)) s.heap.objs.size f cdv))) :
    DSs (cxOf (L2.CX P w) P w K mg base ["house", "weekday", "waits", "late", "first"] "is_late" (defScope (top 36)) f cdv A outer s H E) (WD E) (defBody (top 36)) t_is_late := by
  have nd := (sc_is_late).nd
  have tk : Takes (cxOf (L2.CX P w) P w K mg base ["house", "weekday", "waits", "late", "first"] "is_late" (defScope (top 36)) f cdv A outer s H E) (WD E) := takes_of rfl rfl rfl rfl
  have hp : PassesOwn (model P w) (A.deeper (envOfC "is_late" (defScope (top 36)) s.heap.objs.size f cdv)) (cxOf (L2.CX P w) P w K mg base ["house", "weekday", "waits", "late", "first"] "is_late" (defScope (top 36)) f cdv A outer s H E).env (cxOf (L2.CX P w) P w K mg base ["house", "weekday", "waits", "late", "first"] "is_late" (defScope (top 36)) f cdv A outer s H E).xe := passes_of rfl
  exact ds_cons (ds_if (dt_cmp (op_eqD hr.u64) od_eq (de_var 2) (de_int) (by rfl)) (ds_one (ds_ret (de_bl))) (ds_nil)) (ds_cons (ds_set 4 nd (de_bin op_sub od_sub (de_callH h_rounds_before hr (by decide) tk (da_cons (de_var 0) (da_cons (de_bin or_add od_add (de_bin or_add od_add (de_gint C.c_LONG_harming) (de_var 1)) (de_int)) (da_nil)))) (de_var 2))) (ds_one (ds_ret (de_cmp op_ge od_ge (de_bin op_sub od_sub (de_bin or_add od_add (de_bin or_add od_add (de_gint C.c_LONG_harming) (de_var 1)) (de_int)) (de_callH h_day_by hr (by decide) tk (da_cons (de_var 0) (da_cons (de_var 4) (da_nil))))) (de_var 3) (by rfl)))))
theorem ln_is_late : ∀ ds M Q R, S_is_late ds M Q R → ds.length = 4 := by
  rintro ds M Q R ⟨_, _, _, _, _, rfl, _⟩
  rfl
theorem hs_is_late {P : Program} {w : World} {K : PySem.W.Frag} {mg : Str → Option Value} {base : Heap} (C : Fc P w K mg base) (h_day_by : Has P w K mg base "day_by" 2 ["house", "number"] S_day_by) (h_rounds_before : Has P w K mg base "rounds_before" 3 ["house", "day"] S_rounds_before) : Has P w K mg base "is_late" 4 ["house", "weekday", "waits", "late"] S_is_late :=
  has_of C.f_is_late sc_is_late C.g_is_late (fun F => FunD.bindsN F fun _ _ _ _ _ _ us hl => match us, hl with | [_, _, _, _], _ => rfl) ln_is_late (fun f cdv A outer s H E hr => dv_is_late C h_day_by h_rounds_before f cdv A outer s H E hr) kp_is_late
theorem sc_has_late : FnScope ["house", "stands", "late", "weekday", "waits"] ["house", "stands", "late"] (defScope (top 38)) := ⟨rfl, rfl, rfl, by decide +kernel, rfl, by decide +kernel, by decide +kernel⟩
theorem dv_has_late {P : Program} {w : World} {K : PySem.W.Frag} {mg : Str → Option Value} {base : Heap} (C : Fc P w K mg base) (h_is_late : Has P w K mg base "is_late" 4 ["house", "weekday", "waits", "late"] S_is_late) (f : Addr) (cdv : Value) (A : Around) (outer : List PySem.Env) (s : Shared) (H : Hp) (E : XK) (hr : Room 4 (A.deeper (envOfC "has_late" (defScope (top 38)) s.heap.objs.size f cdv))) :
    DSs (cxOf (L2.CX P w) P w K mg base ["house", "stands", "late", "weekday", "waits"] "has_late" (defScope (top 38)) f cdv A outer s H E) (WD E) (defBody (top 38)) t_has_late := by
  have nd := (sc_has_late).nd
  have tk : Takes (cxOf (L2.CX P w) P w K mg base ["house", "stands", "late", "weekday", "waits"] "has_late" (defScope (top 38)) f cdv A outer s H E) (WD E) := takes_of rfl rfl rfl rfl
  have hp : PassesOwn (model P w) (A.deeper (envOfC "has_late" (defScope (top 38)) s.heap.objs.size f cdv)) (cxOf (L2.CX P w) P w K mg base ["house", "stands", "late", "weekday", "waits"] "has_late" (defScope (top 38)) f cdv A outer s H E).env (cxOf (L2.CX P w) P w K mg base ["house", "stands", "late", "weekday", "waits"] "has_late" (defScope (top 38)) f cdv A outer s H E).xe := passes_of rfl
  exact ds_one (ds_ret (de_b (cr_any rfl) cd_any C.b_any (da_cons (de_lc rfl nd (di_lst (de_var 1)) (blkOk_by (own := [("weekday", 3), ("waits", 4)]) rfl) (by decide) (fun s H C0 cl fp => dg_tup rfl (goes_cons (goes_name 3) (goes_cons (goes_name 4) (goes_nil))) (dgs_cons (dg_name 3 nd) (dgs_cons (dg_name 4 nd) (dgs_nil)))) (fun s H C0 cl fp => dts_nil) (fun s H C0 cl fp => de_callH h_is_late hr (by decide) takes0 (da_cons (de_var 0) (da_cons (de_bin op_mod od_mod (de_bin op_sub od_sub (de_var 3) (de_int)) (de_gint C.c_WEEK)) (da_cons (de_var 4) (da_cons (de_var 2) (da_nil))))))) (da_nil))))
theorem ln_has_late : ∀ ds M Q R, S_has_late ds M Q R → ds.length = 3 := by
  rintro ds M Q R ⟨_, _, _, _, _, rfl, _⟩
  rfl
theorem hs_has_late {P : Program} {w : World} {K : PySem.W.Frag} {mg : Str → Option Value} {base : Heap} (C : Fc P w K mg base) (h_is_late : Has P w K mg base "is_late" 4 ["house", "weekday", "waits", "late"] S_is_late) : Has P w K mg base "has_late" 5 ["house", "stands", "late"] S_has_late :=
  has_of C.f_has_late sc_has_late C.g_has_late (fun F => FunD.bindsN F fun _ _ _ _ _ _ us hl => match us, hl with | [_, _, _], _ => rfl) ln_has_late (fun f cdv A outer s H E hr => dv_has_late C h_is_late f cdv A outer s H E hr) kp_has_late
theorem sc_fewest_by : FnScope ["house", "late", "stands", "many", "found", "weekday", "waits"] ["house", "late"] (defScope (top 39)) := ⟨rfl, rfl, rfl, by decide +kernel, rfl, by decide +kernel, by decide +kernel⟩
theorem dv_fewest_by {P : Program} {w : World} {K : PySem.W.Frag} {mg : Str → Option Value} {base : Heap} (C : Fc P w K mg base) (h_begins_on : Has P w K mg base "begins_on" 3 ["house", "day"] S_begins_on) (h_all_quiet : Has P w K mg base "all_quiet" 4 ["house", "stands"] S_all_quiet) (h_has_late : Has P w K mg base "has_late" 5 ["house", "stands", "late"] S_has_late) (f : Addr) (cdv : Value) (A : Around) (outer : List PySem.Env) (s : Shared) (H : Hp) (E : XK) (hr : Room 5 (A.deeper (envOfC "fewest_by" (defScope (top 39)) s.heap.objs.size f cdv))) :
    DSs (cxOf (L2.CX P w) P w K mg base ["house", "late", "stands", "many", "found", "weekday", "waits"] "fewest_by" (defScope (top 39)) f cdv A outer s H E) (WD E) (defBody (top 39)) t_fewest_by := by
  have nd := (sc_fewest_by).nd
  have tk : Takes (cxOf (L2.CX P w) P w K mg base ["house", "late", "stands", "many", "found", "weekday", "waits"] "fewest_by" (defScope (top 39)) f cdv A outer s H E) (WD E) := takes_of rfl rfl rfl rfl
  have hp : PassesOwn (model P w) (A.deeper (envOfC "fewest_by" (defScope (top 39)) s.heap.objs.size f cdv)) (cxOf (L2.CX P w) P w K mg base ["house", "late", "stands", "many", "found", "weekday", "waits"] "fewest_by" (defScope (top 39)) f cdv A outer s H E).env (cxOf (L2.CX P w) P w K mg base ["house", "late", "stands", "many", "found", "weekday", "waits"] "fewest_by" (defScope (top 39)) f cdv A outer s H E).xe := passes_of rfl
  exact ds_cons (ds_par2 (i := 2) (j := 3) rfl nd (da_cons (de_callH h_all_quiet hr (by decide) tk (da_cons (de_var 0) (da_cons (de_lst (da_cons (de_tup (da_cons (de_int) (da_cons (de_int) (da_nil)))) (da_nil))) (da_nil)))) (da_cons (de_int) (da_nil)))) (ds_cons (ds_while hp (dt_not (dt_val (de_callH h_has_late hr (by decide) tk (da_cons (de_var 0) (da_cons (de_var 2) (da_cons (de_var 1) (da_nil))))))) (ds_cons (ds_setLc 4 rfl nd (di_lst (de_var 2)) (blkOk_by (own := [("weekday", 5), ("waits", 6)]) rfl) (by decide) (fun s H C0 cl fp => dg_tup rfl (goes_cons (goes_name 5) (goes_cons (goes_name 6) (goes_nil))) (dgs_cons (dg_name 5 nd) (dgs_cons (dg_name 6 nd) (dgs_nil)))) (fun s H C0 cl fp => dts_nil) (fun s H C0 cl fp => de_tup (da_cons (de_bin op_mod od_mod (de_bin or_add od_add (de_var 5) (de_int)) (de_gint C.c_WEEK)) (da_cons (de_bin or_add od_add (de_var 6) (de_callH h_begins_on hr (by decide) takes0 (da_cons (de_var 0) (da_cons (de_var 5) (da_nil))))) (da_nil)))) (by rfl)) (ds_one (ds_par2 (i := 2) (j := 3) rfl nd (da_cons (de_callH h_all_quiet hr (by decide) tk (da_cons (de_var 0) (da_cons (de_setSort rfl hr.u64 C.b_sorted C.b_set (de_bin or_add od_add (de_var 4) (de_var 2))) (da_nil)))) (da_cons (de_bin or_add od_add (de_var 3) (de_int)) (da_nil))))))) (ds_one (ds_ret (de_var 3))))
theorem ln_fewest_by : ∀ ds M Q R, S_fewest_by ds M Q R → ds.length = 2 := by
  rintro ds M Q R ⟨_, _, _, _, _, _, rfl, _⟩
  rfl
theorem hs_fewest_by {P : Program} {w : World} {K : PySem.W.Frag} {mg : Str → Option Value} {base : Heap} (C : Fc P w K mg base) (h_begins_on : Has P w K mg base "begins_on" 3 ["house", "day"] S_begins_on) (h_all_quiet : Has P w K mg base "all_quiet" 4 ["house", "stands"] S_all_quiet) (h_has_late : Has P w K mg base "has_late" 5 ["house", "stands", "late"] S_has_late) : Has P w K mg base "fewest_by" 6 ["house", "late"] S_fewest_by :=
  has_of C.f_fewest_by sc_fewest_by C.g_fewest_by (fun F => FunD.bindsN F fun _ _ _ _ _ _ us hl => match us, hl with | [_, _], _ => rfl) ln_fewest_by (fun f cdv A outer s H E hr => dv_fewest_by C h_begins_on h_all_quiet h_has_late f cdv A outer s H E hr) kp_fewest_by
theorem sc_fewest : FnScope ["house", "late"] ["house", "late"] (defScope (top 40)) := ⟨rfl, rfl, rfl, by decide +kernel, rfl, by decide +kernel, by decide +kernel⟩
theorem dv_fewest {P : Program} {w : World} {K : PySem.W.Frag} {mg : Str → Option Value} {base : Heap} (C : Fc P w K mg base) (h_need_house : Has P w K mg base "need_house" 4 ["value"] S_need_house) (h_need_number : Has P w K mg base "need_number" 3 ["value", "low", "high"] S_need_number) (h_fewest_by : Has P w K mg base "fewest_by" 6 ["house", "late"] S_fewest_by) (f : Addr) (cdv : Value) (A : Around) (outer : List PySem.Env) (s : Shared) (H : Hp) (E : XK) (hr : Room 6 (A.deeper (envOfC "fewest" (defScope (top 40)) s.heap.objs.size f cdv))) :
    DSs (cxOf (L2.CX P w) P w K mg base ["house", "late"] "fewest" (defScope (top 40)) f cdv A outer s H E) (WD E) (defBody (top 40)) t_fewest := by
  have nd := (sc_fewest).nd
  have tk : Takes (cxOf (L2.CX P w) P w K mg base ["house", "late"] "fewest" (defScope (top 40)) f cdv A outer s H E) (WD E) := takes_of rfl rfl rfl rfl
  have hp : PassesOwn (model P w) (A.deeper (envOfC "fewest" (defScope (top 40)) s.heap.objs.size f cdv)) (cxOf (L2.CX P w) P w K mg base ["house", "late"] "fewest" (defScope (top 40)) f cdv A outer s H E).env (cxOf (L2.CX P w) P w K mg base ["house", "late"] "fewest" (defScope (top 40)) f cdv A outer s H E).xe := passes_of rfl
  exact ds_cons (ds_expr (de_callH h_need_house hr (by decide) tk (da_cons (de_var 0) (da_nil)))) (ds_cons (ds_expr (de_callH h_need_number hr (by decide) tk (da_cons (de_var 1) (da_cons (de_int) (da_cons (de_gint C.c_MOST_LATE) (da_nil)))))) (ds_one (ds_ret (de_callH h_fewest_by hr (by decide) tk (da_cons (de_var 0) (da_cons (de_var 1) (da_nil)))))))
theorem ln_fewest : ∀ ds M Q R, S_fewest ds M Q R → ds.length = 2 := by
  rintro ds M Q R ⟨_, _, _, _, _, _, _, _, rfl, _⟩
  rfl
theorem hs_fewest {P : Program} {w : World} {K : PySem.W.Frag} {mg : Str → Option Value} {base : Heap} (C : Fc P w K mg base) (h_need_house : Has P w K mg base "need_house" 4 ["value"] S_need_house) (h_need_number : Has P w K mg base "need_number" 3 ["value", "low", "high"] S_need_number) (h_fewest_by : Has P w K mg base "fewest_by" 6 ["house", "late"] S_fewest_by) : Has P w K mg base "fewest" 7 ["house", "late"] S_fewest :=
  has_of C.f_fewest sc_fewest C.g_fewest (fun F => FunD.bindsN F fun _ _ _ _ _ _ us hl => match us, hl with | [_, _], _ => rfl) ln_fewest (fun f cdv A outer s H E hr => dv_fewest C h_need_house h_need_number h_fewest_by f cdv A outer s H E hr) kp_fewest
theorem sc_never_slower : FnScope ["one", "other", "days", "day"] ["one", "other"] (defScope (top 41)) := ⟨rfl, rfl, rfl, by decide +kernel, rfl, by decide +kernel, by decide +kernel⟩
theorem dv_never_slower {P : Program} {w : World} {K : PySem.W.Frag} {mg : Str → Option Value} {base : Heap} (C : Fc P w K mg base) (h_need_house : Has P w K mg base "need_house" 4 ["value"] S_need_house) (h_most_done : Has P w K mg base "most_done" 3 ["house", "day", "is_holiday"] S_most_done) (f : Addr) (cdv : Value) (A : Around) (outer : List PySem.Env) (s : Shared) (H : Hp) (E : XK) (hr : Room 4 (A.deeper (envOfC "never_slower" (defScope (top 41)) s.heap.objs.size f cdv))) :
    DSs (cxOf (L2.CX P w) P w K mg base ["one", "other", "days", "day"] "never_slower" (defScope (top 41)) f cdv A outer s H E) (WD E) (defBody (top 41)) t_never_slower := by
  have nd := (sc_never_slower).nd
  have tk : Takes (cxOf (L2.CX P w) P w K mg base ["one", "other", "days", "day"] "never_slower" (defScope (top 41)) f cdv A outer s H E) (WD E) := takes_of rfl rfl rfl rfl
  have hp : PassesOwn (model P w) (A.deeper (envOfC "never_slower" (defScope (top 41)) s.heap.objs.size f cdv)) (cxOf (L2.CX P w) P w K mg base ["one", "other", "days", "day"] "never_slower" (defScope (top 41)) f cdv A outer s H E).env (cxOf (L2.CX P w) P w K mg base ["one", "other", "days", "day"] "never_slower" (defScope (top 41)) f cdv A outer s H E).xe := passes_of rfl
  exact ds_cons (ds_expr (de_callH h_need_house hr (by decide) tk (da_cons (de_var 0) (da_nil)))) (ds_cons (ds_expr (de_callH h_need_house hr (by decide) tk (da_cons (de_var 1) (da_nil)))) (ds_cons (ds_if (dt_cmp (op_neD hr.u64) od_ne (de_ix hr.u1 (de_var 0) (de_int)) (de_ix hr.u1 (de_var 1) (de_int)) (by rfl)) (ds_one (ds_raiseH rfl tk C.g_Unlike C.x_Unlike)) (ds_nil)) (ds_cons (ds_set 2 nd (de_lsRg1 rfl C.b_list C.b_range (de_b call_len cd_len C.b_len (da_cons (de_gstr C.c_FIGURES) (da_nil))))) (ds_one (ds_ret (de_b (cr_all rfl) cd_all C.b_all (da_cons (de_lc rfl nd (di_lst (de_var 2)) (blkOk_by (own := [("day", 3)]) rfl) (by decide) (fun s H C0 cl fp => dg_name 3 nd) (fun s H C0 cl fp => dts_nil) (fun s H C0 cl fp => de_cmp op_ge od_ge (de_callH h_most_done hr (by decide) takes0 (da_cons (de_var 0) (da_cons (de_var 3) (da_cons (de_bl) (da_nil))))) (de_callH h_most_done hr (by decide) takes0 (da_cons (de_var 1) (da_cons (de_var 3) (da_cons (de_bl) (da_nil))))) (by rfl))) (da_nil))))))))
theorem ln_never_slower : ∀ ds M Q R, S_never_slower ds M Q R → ds.length = 2 := by
  rintro ds M Q R ⟨_, _, _, _, rfl, _⟩
  rfl
theorem hs_never_slower {P : Program} {w : World} {K : PySem.W.Frag} {mg : Str → Option Value} {base : Heap} (C : Fc P w K mg base) (h_need_house : Has P w K mg base "need_house" 4 ["value"] S_need_house) (h_most_done : Has P w K mg base "most_done" 3 ["house", "day", "is_holiday"] S_most_done) : Has P w K mg base "never_slower" 5 ["one", "other"] S_never_slower :=
  has_of C.f_never_slower sc_never_slower C.g_never_slower (fun F => FunD.bindsN F fun _ _ _ _ _ _ us hl => match us, hl with | [_, _], _ => rfl) ln_never_slower (fun f cdv A outer s H E hr => dv_never_slower C h_need_house h_most_done f cdv A outer s H E hr) kp_never_slower
theorem sc_law_kinds : FnScope ["week", "ring", "pair", "found", "late"] [] (defScope (top 79)) := ⟨rfl, rfl, rfl, by decide +kernel, rfl, by decide +kernel, by decide +kernel⟩
theorem dv_law_kinds {P : Program} {w : World} {K : PySem.W.Frag} {mg : Str → Option Value} {base : Heap} (C : Fc P w K mg base) (h_latest : Has P w K mg base "latest" 7 ["house", "most", "weekdays"] S_latest) (h_most_waiting : Has P w K mg base "most_waiting" 7 ["house", "most", "weekdays"] S_most_waiting) (h_fewest : Has P w K mg base "fewest" 7 ["house", "late"] S_fewest) (h_never_slower : Has P w K mg base "never_slower" 5 ["one", "other"] S_never_slower) (f : Addr) (cdv : Value) (A : Around) (outer : List PySem.Env) (s : Shared) (H : Hp) (E : XK) (hr : Room 7 (A.deeper (envOfC "_law_kinds" (defScope (top 79)) s.heap.objs.size f cdv))) :
    DSs (cxOf (L2.CX P w) P w K mg base ["week", "ring", "pair", "found", "late"] "_law_kinds" (defScope (top 79)) f cdv A outer s H E) (WD E) (defBody (top 79)) t_law_kinds := by
  have nd := (sc_law_kinds).nd
  have tk : Takes (cxOf (L2.CX P w) P w K mg base ["week", "ring", "pair", "found", "late"] "_law_kinds" (defScope (top 79)) f cdv A outer s H E) (WD E) := takes_of rfl rfl rfl rfl
  have hp : PassesOwn (model P w) (A.deeper (envOfC "_law_kinds" (defScope (top 79)) s.heap.objs.size f cdv)) (cxOf (L2.CX P w) P w K mg base ["week", "ring", "pair", "found", "late"] "_law_kinds" (defScope (top 79)) f cdv A outer s H E).env (cxOf (L2.CX P w) P w K mg base ["week", "ring", "pair", "found", "late"] "_law_kinds" (defScope (top 79)) f cdv A outer s H E).xe := passes_of rfl
  exact ds_cons (ds_asg (de_tup (da_cons (de_tup (da_cons (de_str) (da_cons (de_str) (da_cons (de_int) (da_nil))))) (da_cons (de_tup (da_cons (de_str) (da_cons (de_str) (da_cons (de_int) (da_nil))))) (da_cons (de_tup (da_cons (de_str) (da_cons (de_str) (da_cons (de_int) (da_nil))))) (da_nil))))) (dg_tup rfl (goes_cons (goes_name 0) (goes_cons (goes_name 1) (goes_cons (goes_name 2) (goes_nil)))) (dgs_cons (dg_name 0 nd) (dgs_cons (dg_name 1 nd) (dgs_cons (dg_name 2 nd) (dgs_nil)))))) (ds_cons (ds_set 3 nd (de_new (da_cons (de_cmp (op_eqD hr.u64) od_eq (de_callH h_latest hr (by decide) tk (da_cons (de_var 0) (da_cons (de_int) (da_cons (de_str) (da_nil))))) (de_int) (by rfl)) (da_cons (de_cmp or_is od_is (de_callH h_latest hr (by decide) tk (da_cons (de_var 0) (da_cons (de_int) (da_cons (de_str) (da_nil))))) (de_non) (by rfl)) (da_cons (de_cmp (op_eqD hr.u64) od_eq (de_callH h_latest hr (by decide) tk (da_cons (de_var 0) (da_cons (de_int) (da_cons (de_str) (da_nil))))) (de_int) (by rfl)) (da_nil)))))) (ds_cons (ds_expr (de_app (de_var 3) (de_and (de_cmp (op_eqD hr.u64) od_eq (de_callH h_latest hr (by decide) tk (da_cons (de_var 0) (da_cons (de_int) (da_cons (de_str) (da_nil))))) (de_int) (by rfl)) (de_and (de_cmp (op_eqD hr.u64) od_eq (de_callH h_latest hr (by decide) tk (da_cons (de_var 1) (da_cons (de_int) (da_cons (de_str) (da_nil))))) (de_int) (by rfl)) (de_and1 (de_cmp or_is od_is (de_callH h_latest hr (by decide) tk (da_cons (de_var 1) (da_cons (de_int) (da_cons (de_str) (da_nil))))) (de_non) (by rfl))))))) (ds_cons (ds_expr (de_app (de_var 3) (de_and (de_cmp (op_eqD hr.u64) od_eq (de_callH h_latest hr (by decide) tk (da_cons (de_var 2) (da_cons (de_int) (da_cons (de_str) (da_nil))))) (de_int) (by rfl)) (de_and1 (de_cmp (op_eqD hr.u64) od_eq (de_callH h_most_waiting hr (by decide) tk (da_cons (de_var 0) (da_cons (de_int) (da_cons (de_str) (da_nil))))) (de_int) (by rfl)))))) (ds_cons (ds_expr (de_app (de_var 3) (de_and (de_cmp (op_eqD hr.u64) od_eq (de_lc rfl nd (di_tup (de_tup (da_cons (de_int) (da_cons (de_int) (da_cons (de_int) (da_cons (de_int) (da_nil))))))) (blkOk_by (own := [("late", 4)]) rfl) (by decide) (fun s H C0 cl fp => dg_name 4 nd) (fun s H C0 cl fp => dts_nil) (fun s H C0 cl fp => de_callH h_fewest hr (by decide) takes0 (da_cons (de_var 0) (da_cons (de_var 4) (da_nil))))) (de_lst (da_cons (de_int) (da_cons (de_int) (da_cons (de_int) (da_cons (de_int) (da_nil)))))) (by rfl)) (de_and1 (de_cmp (op_eqD hr.u64) od_eq (de_callH h_fewest hr (by decide) tk (da_cons (de_var 1) (da_cons (de_int) (da_nil)))) (de_int) (by rfl)))))) (ds_cons (ds_expr (de_app (de_var 3) (de_and (de_cmp (op_eqD hr.u64) od_eq (de_callH h_fewest hr (by decide) tk (da_cons (de_var 2) (da_cons (de_int) (da_nil)))) (de_int) (by rfl)) (de_and (de_cmp (op_eqD hr.u64) od_eq (de_callH h_fewest hr (by decide) tk (da_cons (de_var 1) (da_cons (de_int) (da_nil)))) (de_int) (by rfl)) (de_and1 (de_cmp (op_eqD hr.u64) od_eq (de_callH h_fewest hr (by decide) tk (da_cons (de_var 1) (da_cons (de_int) (da_nil)))) (de_int) (by rfl))))))) (ds_cons (ds_expr (de_app (de_var 3) (de_and (de_callH h_never_slower hr (by decide) tk (da_cons (de_tup (da_cons (de_str) (da_cons (de_str) (da_cons (de_int) (da_nil))))) (da_cons (de_var 0) (da_nil)))) (de_and1 (de_not (de_callH h_never_slower hr (by decide) tk (da_cons (de_var 0) (da_cons (de_tup (da_cons (de_str) (da_cons (de_str) (da_cons (de_int) (da_nil))))) (da_nil))))))))) (ds_one (ds_ret (de_bin or_add od_add (de_frz (de_var 3)) (de_lst (da_cons (de_and (de_not (de_callH h_never_slower hr (by decide) tk (da_cons (de_tup (da_cons (de_str) (da_cons (de_str) (da_cons (de_int) (da_nil))))) (da_cons (de_var 1) (da_nil))))) (de_and1 (de_callH h_never_slower hr (by decide) tk (da_cons (de_var 1) (da_cons (de_tup (da_cons (de_str) (da_cons (de_str) (da_cons (de_int) (da_nil))))) (da_nil)))))) (da_nil))))))))))))
theorem ln_law_kinds : ∀ ds M Q R, S_law_kinds ds M Q R → ds.length = 0 := by
  rintro ds M Q R ⟨rfl, _⟩
  rfl
theorem hs_law_kinds {P : Program} {w : World} {K : PySem.W.Frag} {mg : Str → Option Value} {base : Heap} (C : Fc P w K mg base) (h_latest : Has P w K mg base "latest" 7 ["house", "most", "weekdays"] S_latest) (h_most_waiting : Has P w K mg base "most_waiting" 7 ["house", "most", "weekdays"] S_most_waiting) (h_fewest : Has P w K mg base "fewest" 7 ["house", "late"] S_fewest) (h_never_slower : Has P w K mg base "never_slower" 5 ["one", "other"] S_never_slower) : Has P w K mg base "_law_kinds" 8 [] S_law_kinds :=
  has_of C.f_law_kinds sc_law_kinds C.g_law_kinds (fun F => FunD.bindsN F fun _ _ _ _ _ _ us hl => match us, hl with | [], _ => rfl) ln_law_kinds (fun f cdv A outer s H E hr => dv_law_kinds C h_latest h_most_waiting h_fewest h_never_slower f cdv A outer s H E hr) kp_law_kinds
theorem sc_is_seen : FnScope ["value", "sign"] ["value"] (defScope (top 63)) := ⟨rfl, rfl, rfl, by decide +kernel, rfl, by decide +kernel, by decide +kernel⟩
theorem dv_is_seen {P : Program} {w : World} {K : PySem.W.Frag} {mg : Str → Option Value} {base : Heap} (C : Fc P w K mg base)  (f : Addr) (cdv : Value) (A : Around) (outer : List PySem.Env) (s : Shared) (H : Hp) (E : XK) (hr : Room 1 (A.deeper (envOfC "is_seen" (defScope (top 63)) s.heap.objs.size f cdv))) :
    DSs (cxOf (L2.CX P w) P w K mg base ["value", "sign"] "is_seen" (defScope (top 63)) f cdv A outer s H E) (WD E) (defBody (top 63)) t_is_seen := by
  have nd := (sc_is_seen).nd
  have tk : Takes (cxOf (L2.CX P w) P w K mg base ["value", "sign"] "is_seen" (defScope (top 63)) f cdv A outer s H E) (WD E) := takes_of rfl rfl rfl rfl
  have hp : PassesOwn (model P w) (A.deeper (envOfC "is_seen" (defScope (top 63)) s.heap.objs.size f cdv)) (cxOf (L2.CX P w) P w K mg base ["value", "sign"] "is_seen" (defScope (top 63)) f cdv A outer s H E).env (cxOf (L2.CX P w) P w K mg base ["value", "sign"] "is_seen" (defScope (top 63)) f cdv A outer s H E).xe := passes_of rfl
  exact ds_cons (ds_if ((dw_or (dt_not (dt_val (de_isi isty_str (by decide +kernel) (de_var 0) C.b_isinstance C.b_str))) (dw_or1 (dt_not (dt_chain or_le or_le od_le od_le (de_int) (de_b call_len cd_len C.b_len (da_cons (de_var 0) (da_nil))) (de_gint C.c_MOST_SEEN))))).pt) (ds_one (ds_ret (de_bl))) (ds_nil)) (ds_one (ds_ret (de_b (cr_all rfl) cd_all C.b_all (da_cons (de_lc rfl nd (di_str (de_var 0)) (blkOk_by (own := [("sign", 1)]) rfl) (by decide) (fun s H C0 cl fp => dg_name 1 nd) (fun s H C0 cl fp => dts_nil) (fun s H C0 cl fp => de_cmp (or_in hr.u65) od_in (de_var 1) (de_gstr C.c_SIGNS) (by rfl))) (da_nil)))))
theorem ln_is_seen : ∀ ds M Q R, S_is_seen ds M Q R → ds.length = 1 := by
  rintro ds M Q R ⟨_, _, rfl, _⟩
  rfl
theorem hs_is_seen {P : Program} {w : World} {K : PySem.W.Frag} {mg : Str → Option Value} {base : Heap} (C : Fc P w K mg base)  : Has P w K mg base "is_seen" 2 ["value"] S_is_seen :=
  has_of C.f_is_seen sc_is_seen C.g_is_seen (fun F => FunD.bindsN F fun _ _ _ _ _ _ us hl => match us, hl with | [_], _ => rfl) ln_is_seen (fun f cdv A outer s H E hr => dv_is_seen C  f cdv A outer s H E hr) kp_is_seen
theorem sc_all_runs : FnScope ["found", "figure", "head"] [] (defScope (top 66)) := ⟨rfl, rfl, rfl, by decide +kernel, rfl, by decide +kernel, by decide +kernel⟩
theorem dv_all_runs {P : Program} {w : World} {K : PySem.W.Frag} {mg : Str → Option Value} {base : Heap} (C : Fc P w K mg base)  (f : Addr) (cdv : Value) (A : Around) (outer : List PySem.Env) (s : Shared) (H : Hp) (E : XK) (hr : Room 1 (A.deeper (envOfC "all_runs" (defScope (top 66)) s.heap.objs.size f cdv))) :
    DSs (cxOf (L2.CX P w) P w K mg base ["found", "figure", "head"] "all_runs" (defScope (top 66)) f cdv A outer s H E) (WD E) (defBody (top 66)) t_all_runs := by
  have nd := (sc_all_runs).nd
  have tk : Takes (cxOf (L2.CX P w) P w K mg base ["found", "figure", "head"] "all_runs" (defScope (top 66)) f cdv A outer s H E) (WD E) := takes_of rfl rfl rfl rfl
  have hp : PassesOwn (model P w) (A.deeper (envOfC "all_runs" (defScope (top 66)) s.heap.objs.size f cdv)) (cxOf (L2.CX P w) P w K mg base ["found", "figure", "head"] "all_runs" (defScope (top 66)) f cdv A outer s H E).env (cxOf (L2.CX P w) P w K mg base ["found", "figure", "head"] "all_runs" (defScope (top 66)) f cdv A outer s H E).xe := passes_of rfl
  exact ds_cons (ds_set 0 nd (de_lst (da_cons (de_str) (da_nil)))) (ds_cons (ds_for hp rfl (di_str (de_gstr C.c_FIGURES)) (dg_name 1 nd) (ds_one (ds_set 0 nd (de_bin or_add od_add (de_var 0) (de_lc rfl nd (di_lst (de_var 0)) (blkOk_by (own := [("head", 2)]) rfl) (by decide) (fun s H C0 cl fp => dg_name 2 nd) (fun s H C0 cl fp => dts_nil) (fun s H C0 cl fp => de_bin or_add od_add (de_var 2) (de_var 1))))))) (ds_one (ds_ret (de_sl (de_b (cr_sortD hr.u70) cd_sorted C.b_sorted (da_cons (de_var 0) (da_nil))) (do_some (de_int)) (do_none)))))
theorem ln_all_runs : ∀ ds M Q R, S_all_runs ds M Q R → ds.length = 0 := by
  rintro ds M Q R ⟨rfl, _⟩
  rfl
theorem hs_all_runs {P : Program} {w : World} {K : PySem.W.Frag} {mg : Str → Option Value} {base : Heap} (C : Fc P w K mg base)  : Has P w K mg base "all_runs" 2 [] S_all_runs :=
  has_of C.f_all_runs sc_all_runs C.g_all_runs (fun F => FunD.bindsN F fun _ _ _ _ _ _ us hl => match us, hl with | [], _ => rfl) ln_all_runs (fun f cdv A outer s H E hr => dv_all_runs C  f cdv A outer s H E hr) kp_all_runs
theorem sc_counts_of : FnScope ["house", "calendar", "days", "waits", "found", "day", "done"] ["house", "calendar", "days"] (defScope (top 64)) := ⟨rfl, rfl, rfl, by decide +kernel, rfl, by decide +kernel, by decide +kernel⟩
theorem dv_counts_of {P : Program} {w : World} {K : PySem.W.Frag} {mg : Str → Option Value} {base : Heap} (C : Fc P w K mg base) (h_begins_on : Has P w K mg base "begins_on" 3 ["house", "day"] S_begins_on) (h_most_done : Has P w K mg base "most_done" 3 ["house", "day", "is_holiday"] S_most_done) (f : Addr) (cdv : Value) (A : Around) (outer : List PySem.Env) (s : Shared) (H : Hp) (E : XK) (hr : Room 3 (A.deeper (envOfC "counts_of" (defScope (top 64)) s.heap.objs.size f cdv))) :
    DSs (cxOf (L2.CX P w) P w K mg base ["house", "calendar", "days", "waits", "found", "day", "done"] "counts_of" (defScope (top 64)) f cdv A outer s H E) (WD E) (defBody (top 64)) t_counts_of := by
  have nd := (sc_counts_of).nd
  have tk : Takes (cxOf (L2.CX P w) P w K mg base ["house", "calendar", "days", "waits", "found", "day", "done"] "counts_of" (defScope (top 64)) f cdv A outer s H E) (WD E) := takes_of rfl rfl rfl rfl
  have hp : PassesOwn (model P w) (A.deeper (envOfC "counts_of" (defScope (top 64)) s.heap.objs.size f cdv)) (cxOf (L2.CX P w) P w K mg base ["house", "calendar", "days", "waits", "found", "day", "done"] "counts_of" (defScope (top 64)) f cdv A outer s H E).env (cxOf (L2.CX P w) P w K mg base ["house", "calendar", "days", "waits", "found", "day", "done"] "counts_of" (defScope (top 64)) f cdv A outer s H E).xe := passes_of rfl
  exact ds_cons (ds_par2 (i := 3) (j := 4) rfl nd (da_cons (de_int) (da_cons (de_new (da_nil)) (da_nil)))) (ds_cons (ds_for hp rfl (di_rg1 C.b_range (de_var 2)) (dg_name 5 nd) (ds_cons (ds_aug 3 nd ip_add od_ipadd (de_callH h_begins_on hr (by decide) tk (da_cons (de_var 0) (da_cons (de_var 5) (da_nil))))) (ds_cons (ds_set 6 nd (de_b (cr_minU rfl) cd_min C.b_min (da_cons (de_var 3) (da_cons (de_callH h_most_done hr (by decide) tk (da_cons (de_var 0) (da_cons (de_var 5) (da_cons (de_cmp (or_in hr.u65) od_in (de_var 5) (de_var 1) (by rfl)) (da_nil))))) (da_nil))))) (ds_cons (ds_aug 3 nd ip_sub od_ipsub (de_var 6)) (ds_one (ds_expr (de_app (de_var 4) (de_var 6)))))))) (ds_one (ds_ret (de_frz (de_var 4)))))
theorem ln_counts_of : ∀ ds M Q R, S_counts_of ds M Q R → ds.length = 3 := by
  rintro ds M Q R ⟨_, _, _, _, _, rfl, _⟩
  rfl
theorem hs_counts_of {P : Program} {w : World} {K : PySem.W.Frag} {mg : Str → Option Value} {base : Heap} (C : Fc P w K mg base) (h_begins_on : Has P w K mg base "begins_on" 3 ["house", "day"] S_begins_on) (h_most_done : Has P w K mg base "most_done" 3 ["house", "day", "is_holiday"] S_most_done) : Has P w K mg base "counts_of" 4 ["house", "calendar", "days"] S_counts_of :=
  has_of C.f_counts_of sc_counts_of C.g_counts_of (fun F => FunD.bindsN F fun _ _ _ _ _ _ us hl => match us, hl with | [_, _, _], _ => rfl) ln_counts_of (fun f cdv A outer s H E hr => dv_counts_of C h_begins_on h_most_done f cdv A outer s H E hr) kp_counts_of
theorem sc_goes_with : FnScope ["house", "calendar", "seen", "sign", "done"] ["house", "calendar", "seen"] (defScope (top 65)) := ⟨rfl, rfl, rfl, by decide +kernel, rfl, by decide +kernel, by decide +kernel⟩
theorem dv_goes_with {P : Program} {w : World} {K : PySem.W.Frag} {mg : Str → Option Value} {base : Heap} (C : Fc P w K mg base) (h_counts_of : Has P w K mg base "counts_of" 4 ["house", "calendar", "days"] S_counts_of) (f : Addr) (cdv : Value) (A : Around) (outer : List PySem.Env) (s : Shared) (H : Hp) (E : XK) (hr : Room 4 (A.deeper (envOfC "goes_with" (defScope (top 65)) s.heap.objs.size f cdv))) :
    DSs (cxOf (L2.CX P w) P w K mg base ["house", "calendar", "seen", "sign", "done"] "goes_with" (defScope (top 65)) f cdv A outer s H E) (WD E) (defBody (top 65)) t_goes_with := by
  have nd := (sc_goes_with).nd
  have tk : Takes (cxOf (L2.CX P w) P w K mg base ["house", "calendar", "seen", "sign", "done"] "goes_with" (defScope (top 65)) f cdv A outer s H E) (WD E) := takes_of rfl rfl rfl rfl
  have hp : PassesOwn (model P w) (A.deeper (envOfC "goes_with" (defScope (top 65)) s.heap.objs.size f cdv)) (cxOf (L2.CX P w) P w K mg base ["house", "calendar", "seen", "sign", "done"] "goes_with" (defScope (top 65)) f cdv A outer s H E).env (cxOf (L2.CX P w) P w K mg base ["house", "calendar", "seen", "sign", "done"] "goes_with" (defScope (top 65)) f cdv A outer s H E).xe := passes_of rfl
  exact ds_cons (ds_for hp rfl (di_zip C.b_zip (de_var 2) (de_callH h_counts_of hr (by decide) tk (da_cons (de_var 0) (da_cons (de_var 1) (da_cons (de_b call_len cd_len C.b_len (da_cons (de_var 2) (da_nil))) (da_nil)))))) (dg_tup rfl (goes_cons (goes_name 3) (goes_cons (goes_name 4) (goes_nil))) (dgs_cons (dg_name 3 nd) (dgs_cons (dg_name 4 nd) (dgs_nil)))) (ds_one (ds_if ((dw_and (dt_cmp (op_neD hr.u64) od_ne (de_var 3) (de_str) (by rfl)) (dw_and1 (dt_cmp (op_neD hr.u64) od_ne (de_ty cr_int cd_int C.b_int (da_cons (de_var 3) (da_nil))) (de_var 4) (by rfl)))).pt) (ds_one (ds_ret (de_bl))) (ds_nil)))) (ds_one (ds_ret (de_bl)))
theorem ln_goes_with : ∀ ds M Q R, S_goes_with ds M Q R → ds.length = 3 := by
  rintro ds M Q R ⟨_, _, _, _, _, _, rfl, _⟩
  rfl
theorem hs_goes_with {P : Program} {w : World} {K : PySem.W.Frag} {mg : Str → Option Value} {base : Heap} (C : Fc P w K mg base) (h_counts_of : Has P w K mg base "counts_of" 4 ["house", "calendar", "days"] S_counts_of) : Has P w K mg base "goes_with" 5 ["house", "calendar", "seen"] S_goes_with :=
  has_of C.f_goes_with sc_goes_with C.g_goes_with (fun F => FunD.bindsN F fun _ _ _ _ _ _ us hl => match us, hl with | [_, _, _], _ => rfl) ln_goes_with (fun f cdv A outer s H E hr => dv_goes_with C h_counts_of f cdv A outer s H E hr) kp_goes_with
theorem sc_houses_for : FnScope ["work", "calendar", "seen", "found", "run", "speed"] ["work", "calendar", "seen"] (defScope (top 67)) := ⟨rfl, rfl, rfl, by decide +kernel, rfl, by decide +kernel, by decide +kernel⟩
theorem dv_houses_for {P : Program} {w : World} {K : PySem.W.Frag} {mg : Str → Option Value} {base : Heap} (C : Fc P w K mg base) (h_are_weekdays : Has P w K mg base "are_weekdays" 2 ["value"] S_are_weekdays) (h_is_house : Has P w K mg base "is_house" 3 ["value"] S_is_house) (h_need_calendar : Has P w K mg base "need_calendar" 4 ["value"] S_need_calendar) (h_is_seen : Has P w K mg base "is_seen" 2 ["value"] S_is_seen) (h_all_runs : Has P w K mg base "all_runs" 2 [] S_all_runs) (h_goes_with : Has P w K mg base "goes_with" 5 ["house", "calendar", "seen"] S_goes_with) (f : Addr) (cdv : Value) (A : Around) (outer : List PySem.Env) (s : Shared) (H : Hp) (E : XK) (hr : Room 5 (A.deeper (envOfC "houses_for" (defScope (top 67)) s.heap.objs.size f cdv))) :
    DSs (cxOf (L2.CX P w) P w K mg base ["work", "calendar", "seen", "found", "run", "speed"] "houses_for" (defScope (top 67)) f cdv A outer s H E) (WD E) (defBody (top 67)) t_houses_for := by
  have nd := (sc_houses_for).nd
  have tk : Takes (cxOf (L2.CX P w) P w K mg base ["work", "calendar", "seen", "found", "run", "speed"] "houses_for" (defScope (top 67)) f cdv A outer s H E) (WD E) := takes_of rfl rfl rfl rfl
  have hp : PassesOwn (model P w) (A.deeper (envOfC "houses_for" (defScope (top 67)) s.heap.objs.size f cdv)) (cxOf (L2.CX P w) P w K mg base ["work", "calendar", "seen", "found", "run", "speed"] "houses_for" (defScope (top 67)) f cdv A outer s H E).env (cxOf (L2.CX P w) P w K mg base ["work", "calendar", "seen", "found", "run", "speed"] "houses_for" (defScope (top 67)) f cdv A outer s H E).xe := passes_of rfl
  exact ds_cons (ds_if ((dw_or (dt_not (dt_val (de_callH h_are_weekdays hr (by decide) tk (da_cons (de_var 0) (da_nil))))) (dw_or1 (dt_cmp (op_eqD hr.u64) od_eq (de_var 0) (de_str) (by rfl)))).pt) (ds_one (ds_raiseH rfl tk C.g_InvalidWeekdays C.x_InvalidWeekdays)) (ds_nil)) (ds_cons (ds_expr (de_callH h_need_calendar hr (by decide) tk (da_cons (de_var 1) (da_nil)))) (ds_cons (ds_if (dt_not (dt_val (de_callH h_is_seen hr (by decide) tk (da_cons (de_var 2) (da_nil))))) (ds_one (ds_raiseH rfl tk C.g_InvalidSeen C.x_InvalidSeen)) (ds_nil)) (ds_cons (ds_set 3 nd (de_new (da_nil))) (ds_cons (ds_for hp rfl (di_lst (de_call0H h_all_runs hr (by decide) tk)) (dg_name 4 nd) (ds_one (ds_for hp rfl (di_rg2 C.b_range (de_int) (de_bin or_add od_add (de_gint C.c_MOST_SPEED) (de_int))) (dg_name 5 nd) (ds_one (ds_if ((dw_and (dt_val (de_callH h_is_house hr (by decide) tk (da_cons (de_tup (da_cons (de_var 0) (da_cons (de_var 4) (da_cons (de_var 5) (da_nil))))) (da_nil)))) (dw_and1 (dt_val (de_callH h_goes_with hr (by decide) tk (da_cons (de_tup (da_cons (de_var 0) (da_cons (de_var 4) (da_cons (de_var 5) (da_nil))))) (da_cons (de_var 1) (da_cons (de_var 2) (da_nil)))))))).pt) (ds_one (ds_expr (de_app (de_var 3) (de_tup (da_cons (de_var 4) (da_cons (de_var 5) (da_nil))))))) (ds_nil)))))) (ds_one (ds_ret (de_frz (de_var 3))))))))
theorem ln_houses_for : ∀ ds M Q R, S_houses_for ds M Q R → ds.length = 3 := by
  rintro ds M Q R ⟨_, _, _, _, _, _, _, rfl, _⟩
  rfl
theorem hs_houses_for {P : Program} {w : World} {K : PySem.W.Frag} {mg : Str → Option Value} {base : Heap} (C : Fc P w K mg base) (h_are_weekdays : Has P w K mg base "are_weekdays" 2 ["value"] S_are_weekdays) (h_is_house : Has P w K mg base "is_house" 3 ["value"] S_is_house) (h_need_calendar : Has P w K mg base "need_calendar" 4 ["value"] S_need_calendar) (h_is_seen : Has P w K mg base "is_seen" 2 ["value"] S_is_seen) (h_all_runs : Has P w K mg base "all_runs" 2 [] S_all_runs) (h_goes_with : Has P w K mg base "goes_with" 5 ["house", "calendar", "seen"] S_goes_with) : Has P w K mg base "houses_for" 6 ["work", "calendar", "seen"] S_houses_for :=
  has_of C.f_houses_for sc_houses_for C.g_houses_for (fun F => FunD.bindsN F fun _ _ _ _ _ _ us hl => match us, hl with | [_, _, _], _ => rfl) ln_houses_for (fun f cdv A outer s H E hr => dv_houses_for C h_are_weekdays h_is_house h_need_calendar h_is_seen h_all_runs h_goes_with f cdv A outer s H E hr) kp_houses_for
theorem sc_untrue : FnScope ["house", "told", "real", "many", "found", "one", "other", "rows", "day", "mine", "yours"] ["house", "told", "real", "many"] (defScope (top 68)) := ⟨rfl, rfl, rfl, by decide +kernel, rfl, by decide +kernel, by decide +kernel⟩
theorem dv_untrue {P : Program} {w : World} {K : PySem.W.Frag} {mg : Str → Option Value} {base : Heap} (C : Fc P w K mg base) (h_need_house : Has P w K mg base "need_house" 4 ["value"] S_need_house) (h_need_calendar : Has P w K mg base "need_calendar" 4 ["value"] S_need_calendar) (h_need_number : Has P w K mg base "need_number" 3 ["value", "low", "high"] S_need_number) (h_counts_of : Has P w K mg base "counts_of" 4 ["house", "calendar", "days"] S_counts_of) (f : Addr) (cdv : Value) (A : Around) (outer : List PySem.Env) (s : Shared) (H : Hp) (E : XK) (hr : Room 4 (A.deeper (envOfC "untrue" (defScope (top 68)) s.heap.objs.size f cdv))) :
    DSs (cxOf (L2.CX P w) P w K mg base ["house", "told", "real", "many", "found", "one", "other", "rows", "day", "mine", "yours"] "untrue" (defScope (top 68)) f cdv A outer s H E) (WD E) (defBody (top 68)) t_untrue := by
  have nd := (sc_untrue).nd
  have tk : Takes (cxOf (L2.CX P w) P w K mg base ["house", "told", "real", "many", "found", "one", "other", "rows", "day", "mine", "yours"] "untrue" (defScope (top 68)) f cdv A outer s H E) (WD E) := takes_of rfl rfl rfl rfl
  have hp : PassesOwn (model P w) (A.deeper (envOfC "untrue" (defScope (top 68)) s.heap.objs.size f cdv)) (cxOf (L2.CX P w) P w K mg base ["house", "told", "real", "many", "found", "one", "other", "rows", "day", "mine", "yours"] "untrue" (defScope (top 68)) f cdv A outer s H E).env (cxOf (L2.CX P w) P w K mg base ["house", "told", "real", "many", "found", "one", "other", "rows", "day", "mine", "yours"] "untrue" (defScope (top 68)) f cdv A outer s H E).xe := passes_of rfl
  exact ds_cons (ds_expr (de_callH h_need_house hr (by decide) tk (da_cons (de_var 0) (da_nil)))) (ds_cons (ds_expr (de_callH h_need_calendar hr (by decide) tk (da_cons (de_var 1) (da_nil)))) (ds_cons (ds_expr (de_callH h_need_calendar hr (by decide) tk (da_cons (de_var 2) (da_nil)))) (ds_cons (ds_expr (de_callH h_need_number hr (by decide) tk (da_cons (de_var 3) (da_cons (de_int) (da_cons (de_int) (da_nil)))))) (ds_cons (ds_par3 (i := 4) (j := 5) (l := 6) rfl nd (da_cons (de_new (da_nil)) (da_cons (de_int) (da_cons (de_int) (da_nil))))) (ds_cons (ds_set 7 nd (de_lsZip rfl C.b_list C.b_zip (de_callH h_counts_of hr (by decide) tk (da_cons (de_var 0) (da_cons (de_var 1) (da_cons (de_var 3) (da_nil))))) (de_callH h_counts_of hr (by decide) tk (da_cons (de_var 0) (da_cons (de_var 2) (da_cons (de_var 3) (da_nil))))))) (ds_cons (ds_for hp rfl (di_enumL C.b_enumerate (de_var 7)) (dg_tup rfl (goes_cons (goes_name 8) (goes_cons (goes_tup (goes_cons (goes_name 9) (goes_cons (goes_name 10) (goes_nil)))) (goes_nil))) (dgs_cons (dg_name 8 nd) (dgs_cons (dg_tup rfl (goes_cons (goes_name 9) (goes_cons (goes_name 10) (goes_nil))) (dgs_cons (dg_name 9 nd) (dgs_cons (dg_name 10 nd) (dgs_nil)))) (dgs_nil)))) (ds_cons (ds_if ((dw_or (dt_cmp (op_neD hr.u64) od_ne (de_var 9) (de_var 10) (by rfl)) (dw_or1 ((dw_and (dt_cmp (op_neD hr.u64) od_ne (de_var 5) (de_var 6) (by rfl)) (dw_and1 (dt_cmp op_gt od_gt (de_var 9) (de_int) (by rfl)))).pt))).pt) (ds_one (ds_expr (de_app (de_var 4) (de_var 8)))) (ds_nil)) (ds_one (ds_par2 (i := 5) (j := 6) rfl nd (da_cons (de_bin or_add od_add (de_var 5) (de_var 9)) (da_cons (de_bin or_add od_add (de_var 6) (de_var 10)) (da_nil))))))) (ds_one (ds_ret (de_frz (de_var 4))))))))))
theorem ln_untrue : ∀ ds M Q R, S_untrue ds M Q R → ds.length = 4 := by
  rintro ds M Q R ⟨_, _, _, _, _, _, _, _, rfl, _⟩
  rfl
theorem hs_untrue {P : Program} {w : World} {K : PySem.W.Frag} {mg : Str → Option Value} {base : Heap} (C : Fc P w K mg base) (h_need_house : Has P w K mg base "need_house" 4 ["value"] S_need_house) (h_need_calendar : Has P w K mg base "need_calendar" 4 ["value"] S_need_calendar) (h_need_number : Has P w K mg base "need_number" 3 ["value", "low", "high"] S_need_number) (h_counts_of : Has P w K mg base "counts_of" 4 ["house", "calendar", "days"] S_counts_of) : Has P w K mg base "untrue" 5 ["house", "told", "real", "many"] S_untrue :=
  has_of C.f_untrue sc_untrue C.g_untrue (fun F => FunD.bindsN F fun _ _ _ _ _ _ us hl => match us, hl with | [_, _, _, _], _ => rfl) ln_untrue (fun f cdv A outer s H E hr => dv_untrue C h_need_house h_need_calendar h_need_number h_counts_of f cdv A outer s H E hr) kp_untrue
theorem sc_text_of : FnScope ["house"] ["house"] (defScope (top 70)) := ⟨rfl, rfl, rfl, by decide +kernel, rfl, by decide +kernel, by decide +kernel⟩
theorem dv_text_of {P : Program} {w : World} {K : PySem.W.Frag} {mg : Str → Option Value} {base : Heap} (C : Fc P w K mg base)  (f : Addr) (cdv : Value) (A : Around) (outer : List PySem.Env) (s : Shared) (H : Hp) (E : XK) (hr : Room 1 (A.deeper (envOfC "text_of" (defScope (top 70)) s.heap.objs.size f cdv))) :
    DSs (cxOf (L2.CX P w) P w K mg base ["house"] "text_of" (defScope (top 70)) f cdv A outer s H E) (WD E) (defBody (top 70)) t_text_of := by
  have nd := (sc_text_of).nd
  have tk : Takes (cxOf (L2.CX P w) P w K mg base ["house"] "text_of" (defScope (top 70)) f cdv A outer s H E) (WD E) := takes_of rfl rfl rfl rfl
  have hp : PassesOwn (model P w) (A.deeper (envOfC "text_of" (defScope (top 70)) s.heap.objs.size f cdv)) (cxOf (L2.CX P w) P w K mg base ["house"] "text_of" (defScope (top 70)) f cdv A outer s H E).env (cxOf (L2.CX P w) P w K mg base ["house"] "text_of" (defScope (top 70)) f cdv A outer s H E).xe := passes_of rfl
  exact ds_one (ds_ret (de_joined (DJ.cons (de_fmt (de_ix hr.u1 (de_var 0) (de_int))) (DJ.cons (de_str) (DJ.cons (de_fmt (de_ix hr.u1 (de_var 0) (de_int))) (DJ.cons (de_str) (DJ.cons (de_fmt (de_ix hr.u1 (de_var 0) (de_int))) (DJ.nil))))))))
theorem ln_text_of : ∀ ds M Q R, S_text_of ds M Q R → ds.length = 1 := by
  rintro ds M Q R ⟨_, _, rfl, _⟩
  rfl
theorem hs_text_of {P : Program} {w : World} {K : PySem.W.Frag} {mg : Str → Option Value} {base : Heap} (C : Fc P w K mg base)  : Has P w K mg base "text_of" 2 ["house"] S_text_of :=
  has_of C.f_text_of sc_text_of C.g_text_of (fun F => FunD.bindsN F fun _ _ _ _ _ _ us hl => match us, hl with | [_], _ => rfl) ln_text_of (fun f cdv A outer s H E hr => dv_text_of C  f cdv A outer s H E hr) kp_text_of
theorem sc_house_text : FnScope ["house"] ["house"] (defScope (top 71)) := ⟨rfl, rfl, rfl, by decide +kernel, rfl, by decide +kernel, by decide +kernel⟩
theorem dv_house_text {P : Program} {w : World} {K : PySem.W.Frag} {mg : Str → Option Value} {base : Heap} (C : Fc P w K mg base) (h_need_house : Has P w K mg base "need_house" 4 ["value"] S_need_house) (h_text_of : Has P w K mg base "text_of" 2 ["house"] S_text_of) (f : Addr) (cdv : Value) (A : Around) (outer : List PySem.Env) (s : Shared) (H : Hp) (E : XK) (hr : Room 4 (A.deeper (envOfC "house_text" (defScope (top 71)) s.heap.objs.size f cdv))) :
    DSs (cxOf (L2.CX P w) P w K mg base ["house"] "house_text" (defScope (top 71)) f cdv A outer s H E) (WD E) (defBody (top 71)) t_house_text := by
  have nd := (sc_house_text).nd
  have tk : Takes (cxOf (L2.CX P w) P w K mg base ["house"] "house_text" (defScope (top 71)) f cdv A outer s H E) (WD E) := takes_of rfl rfl rfl rfl
  have hp : PassesOwn (model P w) (A.deeper (envOfC "house_text" (defScope (top 71)) s.heap.objs.size f cdv)) (cxOf (L2.CX P w) P w K mg base ["house"] "house_text" (defScope (top 71)) f cdv A outer s H E).env (cxOf (L2.CX P w) P w K mg base ["house"] "house_text" (defScope (top 71)) f cdv A outer s H E).xe := passes_of rfl
  exact ds_cons (ds_expr (de_callH h_need_house hr (by decide) tk (da_cons (de_var 0) (da_nil)))) (ds_one (ds_ret (de_callH h_text_of hr (by decide) tk (da_cons (de_var 0) (da_nil)))))
theorem ln_house_text : ∀ ds M Q R, S_house_text ds M Q R → ds.length = 1 := by
  rintro ds M Q R ⟨_, _, rfl, _⟩
  rfl
theorem hs_house_text {P : Program} {w : World} {K : PySem.W.Frag} {mg : Str → Option Value} {base : Heap} (C : Fc P w K mg base) (h_need_house : Has P w K mg base "need_house" 4 ["value"] S_need_house) (h_text_of : Has P w K mg base "text_of" 2 ["house"] S_text_of) : Has P w K mg base "house_text" 5 ["house"] S_house_text :=
  has_of C.f_house_text sc_house_text C.g_house_text (fun F => FunD.bindsN F fun _ _ _ _ _ _ us hl => match us, hl with | [_], _ => rfl) ln_house_text (fun f cdv A outer s H E hr => dv_house_text C h_need_house h_text_of f cdv A outer s H E hr) kp_house_text
theorem sc_house_in : FnScope ["value", "parts", "ends"] ["value"] (defScope (top 72)) := ⟨rfl, rfl, rfl, by decide +kernel, rfl, by decide +kernel, by decide +kernel⟩
theorem dv_house_in {P : Program} {w : World} {K : PySem.W.Frag} {mg : Str → Option Value} {base : Heap} (C : Fc P w K mg base)  (f : Addr) (cdv : Value) (A : Around) (outer : List PySem.Env) (s : Shared) (H : Hp) (E : XK) (hr : Room 1 (A.deeper (envOfC "house_in" (defScope (top 72)) s.heap.objs.size f cdv))) :
    DSs (cxOf (L2.CX P w) P w K mg base ["value", "parts", "ends"] "house_in" (defScope (top 72)) f cdv A outer s H E) (WD E) (defBody (top 72)) t_house_in := by
  have nd := (sc_house_in).nd
  have tk : Takes (cxOf (L2.CX P w) P w K mg base ["value", "parts", "ends"] "house_in" (defScope (top 72)) f cdv A outer s H E) (WD E) := takes_of rfl rfl rfl rfl
  have hp : PassesOwn (model P w) (A.deeper (envOfC "house_in" (defScope (top 72)) s.heap.objs.size f cdv)) (cxOf (L2.CX P w) P w K mg base ["value", "parts", "ends"] "house_in" (defScope (top 72)) f cdv A outer s H E).env (cxOf (L2.CX P w) P w K mg base ["value", "parts", "ends"] "house_in" (defScope (top 72)) f cdv A outer s H E).xe := passes_of rfl
  exact ds_cons (ds_set 1 nd (de_split (de_var 0) (de_str))) (ds_cons (ds_set 2 nd (de_split (de_ix hr.u1 (de_var 1) (de_un un_neg ud_neg (de_int))) (de_str))) (ds_cons (ds_if ((dw_or (dt_cmp (op_neD hr.u64) od_ne (de_b call_len cd_len C.b_len (da_cons (de_var 1) (da_nil))) (de_int) (by rfl)) (dw_or (dt_cmp (op_neD hr.u64) od_ne (de_b call_len cd_len C.b_len (da_cons (de_var 2) (da_nil))) (de_int) (by rfl)) (dw_or1 (dt_cmp (or_notin hr.u65) od_notin (de_ix hr.u1 (de_var 2) (de_int)) (de_tup (da_cons (de_str) (da_cons (de_str) (da_cons (de_str) (da_nil))))) (by rfl))))).pt) (ds_one (ds_ret (de_tup (da_nil)))) (ds_nil)) (ds_one (ds_ret (de_tup (da_cons (de_ix hr.u1 (de_var 1) (de_int)) (da_cons (de_ix hr.u1 (de_var 2) (de_int)) (da_cons (de_ty cr_int cd_int C.b_int (da_cons (de_ix hr.u1 (de_var 2) (de_int)) (da_nil))) (da_nil)))))))))
theorem ln_house_in : ∀ ds M Q R, S_house_in ds M Q R → ds.length = 1 := by
  rintro ds M Q R ⟨rfl, _⟩
  rfl
theorem hs_house_in {P : Program} {w : World} {K : PySem.W.Frag} {mg : Str → Option Value} {base : Heap} (C : Fc P w K mg base)  : Has P w K mg base "house_in" 2 ["value"] S_house_in :=
  has_of C.f_house_in sc_house_in C.g_house_in (fun F => FunD.bindsN F fun _ _ _ _ _ _ us hl => match us, hl with | [_], _ => rfl) ln_house_in (fun f cdv A outer s H E hr => dv_house_in C  f cdv A outer s H E hr) kp_house_in
theorem sc_read_house : FnScope ["value", "found"] ["value"] (defScope (top 73)) := ⟨rfl, rfl, rfl, by decide +kernel, rfl, by decide +kernel, by decide +kernel⟩
theorem dv_read_house {P : Program} {w : World} {K : PySem.W.Frag} {mg : Str → Option Value} {base : Heap} (C : Fc P w K mg base) (h_is_house : Has P w K mg base "is_house" 3 ["value"] S_is_house) (h_house_in : Has P w K mg base "house_in" 2 ["value"] S_house_in) (f : Addr) (cdv : Value) (A : Around) (outer : List PySem.Env) (s : Shared) (H : Hp) (E : XK) (hr : Room 3 (A.deeper (envOfC "read_house" (defScope (top 73)) s.heap.objs.size f cdv))) :
    DSs (cxOf (L2.CX P w) P w K mg base ["value", "found"] "read_house" (defScope (top 73)) f cdv A outer s H E) (WD E) (defBody (top 73)) t_read_house := by
  have nd := (sc_read_house).nd
  have tk : Takes (cxOf (L2.CX P w) P w K mg base ["value", "found"] "read_house" (defScope (top 73)) f cdv A outer s H E) (WD E) := takes_of rfl rfl rfl rfl
  have hp : PassesOwn (model P w) (A.deeper (envOfC "read_house" (defScope (top 73)) s.heap.objs.size f cdv)) (cxOf (L2.CX P w) P w K mg base ["value", "found"] "read_house" (defScope (top 73)) f cdv A outer s H E).env (cxOf (L2.CX P w) P w K mg base ["value", "found"] "read_house" (defScope (top 73)) f cdv A outer s H E).xe := passes_of rfl
  exact ds_cons (ds_set 1 nd (de_ifE (dt_val (de_isi isty_str (by decide +kernel) (de_var 0) C.b_isinstance C.b_str)) (de_callH h_house_in hr (by decide) tk (da_cons (de_var 0) (da_nil))) (de_tup (da_nil)))) (ds_cons (ds_if (dt_not (dt_val (de_callH h_is_house hr (by decide) tk (da_cons (de_var 1) (da_nil))))) (ds_one (ds_raiseH rfl tk C.g_InvalidText C.x_InvalidText)) (ds_nil)) (ds_one (ds_ret (de_var 1))))
theorem ln_read_house : ∀ ds M Q R, S_read_house ds M Q R → ds.length = 1 := by
  rintro ds M Q R ⟨rfl, _⟩
  rfl
theorem hs_read_house {P : Program} {w : World} {K : PySem.W.Frag} {mg : Str → Option Value} {base : Heap} (C : Fc P w K mg base) (h_is_house : Has P w K mg base "is_house" 3 ["value"] S_is_house) (h_house_in : Has P w K mg base "house_in" 2 ["value"] S_house_in) : Has P w K mg base "read_house" 4 ["value"] S_read_house :=
  has_of C.f_read_house sc_read_house C.g_read_house (fun F => FunD.bindsN F fun _ _ _ _ _ _ us hl => match us, hl with | [_], _ => rfl) ln_read_house (fun f cdv A outer s H E hr => dv_read_house C h_is_house h_house_in f cdv A outer s H E hr) kp_read_house
theorem sc_law_told : FnScope ["week", "ring", "due", "found"] [] (defScope (top 80)) := ⟨rfl, rfl, rfl, by decide +kernel, rfl, by decide +kernel, by decide +kernel⟩
theorem dv_law_told {P : Program} {w : World} {K : PySem.W.Frag} {mg : Str → Option Value} {base : Heap} (C : Fc P w K mg base) (h_houses_for : Has P w K mg base "houses_for" 6 ["work", "calendar", "seen"] S_houses_for) (h_untrue : Has P w K mg base "untrue" 5 ["house", "told", "real", "many"] S_untrue) (h_house_text : Has P w K mg base "house_text" 5 ["house"] S_house_text) (h_read_house : Has P w K mg base "read_house" 4 ["value"] S_read_house) (f : Addr) (cdv : Value) (A : Around) (outer : List PySem.Env) (s : Shared) (H : Hp) (E : XK) (hr : Room 6 (A.deeper (envOfC "_law_told" (defScope (top 80)) s.heap.objs.size f cdv))) :
    DSs (cxOf (L2.CX P w) P w K mg base ["week", "ring", "due", "found"] "_law_told" (defScope (top 80)) f cdv A outer s H E) (WD E) (defBody (top 80)) t_law_told := by
  have nd := (sc_law_told).nd
  have tk : Takes (cxOf (L2.CX P w) P w K mg base ["week", "ring", "due", "found"] "_law_told" (defScope (top 80)) f cdv A outer s H E) (WD E) := takes_of rfl rfl rfl rfl
  have hp : PassesOwn (model P w) (A.deeper (envOfC "_law_told" (defScope (top 80)) s.heap.objs.size f cdv)) (cxOf (L2.CX P w) P w K mg base ["week", "ring", "due", "found"] "_law_told" (defScope (top 80)) f cdv A outer s H E).env (cxOf (L2.CX P w) P w K mg base ["week", "ring", "due", "found"] "_law_told" (defScope (top 80)) f cdv A outer s H E).xe := passes_of rfl
  exact ds_cons (ds_asg (de_tup (da_cons (de_tup (da_cons (de_str) (da_cons (de_str) (da_cons (de_int) (da_nil))))) (da_cons (de_tup (da_cons (de_str) (da_cons (de_str) (da_cons (de_int) (da_nil))))) (da_nil)))) (dg_tup rfl (goes_cons (goes_name 0) (goes_cons (goes_name 1) (goes_nil))) (dgs_cons (dg_name 0 nd) (dgs_cons (dg_name 1 nd) (dgs_nil))))) (ds_cons (ds_set 2 nd (de_lst (da_cons (de_tup (da_cons (de_str) (da_cons (de_int) (da_nil)))) (da_cons (de_tup (da_cons (de_str) (da_cons (de_int) (da_nil)))) (da_cons (de_tup (da_cons (de_str) (da_cons (de_int) (da_nil)))) (da_cons (de_tup (da_cons (de_str) (da_cons (de_int) (da_nil)))) (da_nil))))))) (ds_cons (ds_set 3 nd (de_new (da_cons (de_cmp (op_eqD hr.u64) od_eq (de_callH h_houses_for hr (by decide) tk (da_cons (de_str) (da_cons (de_tup (da_cons (de_int) (da_nil))) (da_cons (de_str) (da_nil))))) (de_var 2) (by rfl)) (da_cons (de_cmp (op_eqD hr.u64) od_eq (de_b call_len cd_len C.b_len (da_cons (de_callH h_houses_for hr (by decide) tk (da_cons (de_str) (da_cons (de_tup (da_cons (de_int) (da_nil))) (da_cons (de_str) (da_nil))))) (da_nil))) (de_int) (by rfl)) (da_nil))))) (ds_cons (ds_expr (de_app (de_var 3) (de_and (de_cmp (op_eqD hr.u64) od_eq (de_callH h_untrue hr (by decide) tk (da_cons (de_var 0) (da_cons (de_tup (da_nil)) (da_cons (de_tup (da_cons (de_int) (da_nil))) (da_cons (de_int) (da_nil)))))) (de_lst (da_cons (de_int) (da_cons (de_int) (da_cons (de_int) (da_cons (de_int) (da_cons (de_int) (da_cons (de_int) (da_nil)))))))) (by rfl)) (de_and1 (de_cmp (op_eqD hr.u64) od_eq (de_callH h_untrue hr (by decide) tk (da_cons (de_var 1) (da_cons (de_tup (da_nil)) (da_cons (de_tup (da_cons (de_int) (da_nil))) (da_cons (de_int) (da_nil)))))) (de_lst (da_nil)) (by rfl)))))) (ds_cons (ds_expr (de_app (de_var 3) (de_cmp (op_eqD hr.u64) od_eq (de_callH h_untrue hr (by decide) tk (da_cons (de_var 0) (da_cons (de_tup (da_cons (de_int) (da_nil))) (da_cons (de_tup (da_cons (de_int) (da_cons (de_int) (da_nil)))) (da_cons (de_int) (da_nil)))))) (de_lst (da_cons (de_int) (da_cons (de_int) (da_cons (de_int) (da_cons (de_int) (da_cons (de_int) (da_cons (de_int) (da_cons (de_int) (da_cons (de_int) (da_cons (de_int) (da_cons (de_int) (da_cons (de_int) (da_nil))))))))))))) (by rfl)))) (ds_one (ds_ret (de_bin or_add od_add (de_frz (de_var 3)) (de_lst (da_cons (de_and (de_cmp (op_eqD hr.u64) od_eq (de_callH h_house_text hr (by decide) tk (da_cons (de_var 0) (da_nil))) (de_str) (by rfl)) (de_and1 (de_cmp (op_eqD hr.u64) od_eq (de_callH h_read_house hr (by decide) tk (da_cons (de_str) (da_nil))) (de_var 1) (by rfl)))) (da_nil))))))))))
theorem ln_law_told : ∀ ds M Q R, S_law_told ds M Q R → ds.length = 0 := by
  rintro ds M Q R ⟨rfl, _⟩
  rfl
theorem hs_law_told {P : Program} {w : World} {K : PySem.W.Frag} {mg : Str → Option Value} {base : Heap} (C : Fc P w K mg base) (h_houses_for : Has P w K mg base "houses_for" 6 ["work", "calendar", "seen"] S_houses_for) (h_untrue : Has P w K mg base "untrue" 5 ["house", "told", "real", "many"] S_untrue) (h_house_text : Has P w K mg base "house_text" 5 ["house"] S_house_text) (h_read_house : Has P w K mg base "read_house" 4 ["value"] S_read_house) : Has P w K mg base "_law_told" 7 [] S_law_told :=
  has_of C.f_law_told sc_law_told C.g_law_told (fun F => FunD.bindsN F fun _ _ _ _ _ _ us hl => match us, hl with | [], _ => rfl) ln_law_told (fun f cdv A outer s H E hr => dv_law_told C h_houses_for h_untrue h_house_text h_read_house f cdv A outer s H E hr) kp_law_told
theorem sc_law : FnScope ["script", "k", "can", "weeks"] ["script"] (defScope (top 81)) := ⟨rfl, rfl, rfl, by decide +kernel, rfl, by decide +kernel, by decide +kernel⟩
theorem dv_law {P : Program} {w : World} {K : PySem.W.Frag} {mg : Str → Option Value} {base : Heap} (C : Fc P w K mg base) (h_law_can : Has P w K mg base "_law_can" 2 ["script", "k"] S_law_can) (h_law_lift : Has P w K mg base "_law_lift" 2 ["can", "wide"] S_law_lift) (h_law_week : Has P w K mg base "_law_week" 10 ["weeks"] S_law_week) (h_law_kinds : Has P w K mg base "_law_kinds" 8 [] S_law_kinds) (h_law_told : Has P w K mg base "_law_told" 7 [] S_law_told) (f : Addr) (cdv : Value) (A : Around) (outer : List PySem.Env) (s : Shared) (H : Hp) (E : XK) (hr : Room 10 (A.deeper (envOfC "law" (defScope (top 81)) s.heap.objs.size f cdv))) :
    DSs (cxOf (L2.CX P w) P w K mg base ["script", "k", "can", "weeks"] "law" (defScope (top 81)) f cdv A outer s H E) (WD E) (defBody (top 81)) t_law := by
  have nd := (sc_law).nd
  have tk : Takes (cxOf (L2.CX P w) P w K mg base ["script", "k", "can", "weeks"] "law" (defScope (top 81)) f cdv A outer s H E) (WD E) := takes_of rfl rfl rfl rfl
  have hp : PassesOwn (model P w) (A.deeper (envOfC "law" (defScope (top 81)) s.heap.objs.size f cdv)) (cxOf (L2.CX P w) P w K mg base ["script", "k", "can", "weeks"] "law" (defScope (top 81)) f cdv A outer s H E).env (cxOf (L2.CX P w) P w K mg base ["script", "k", "can", "weeks"] "law" (defScope (top 81)) f cdv A outer s H E).xe := passes_of rfl
  exact ds_cons (ds_for hp rfl (di_rg1 C.b_range (de_b (cr_maxU rfl) cd_max C.b_max (da_cons (de_int) (da_cons (de_b (cr_minU rfl) cd_min C.b_min (da_cons (de_int) (da_cons (de_b call_len cd_len C.b_len (da_cons (de_var 0) (da_nil))) (da_nil)))) (da_nil))))) (dg_name 1 nd) (ds_cons (ds_set 2 nd (de_callH h_law_can hr (by decide) tk (da_cons (de_var 0) (da_cons (de_var 1) (da_nil))))) (ds_one (ds_for hp rfl (di_tup (de_tup (da_cons (de_int) (da_cons (de_bin or_add od_add (de_int) (de_callH h_law_lift hr (by decide) tk (da_cons (de_var 2) (da_cons (de_int) (da_nil))))) (da_cons (de_callH h_law_lift hr (by decide) tk (da_cons (de_var 2) (da_cons (de_bin op_pow od_pow (de_int) (de_int)) (da_nil)))) (da_nil)))))) (dg_name 3 nd) (ds_one (ds_if (dt_cmp (or_in hr.u65) od_in (de_bl) (de_callH h_law_week hr (by decide) tk (da_cons (de_var 3) (da_nil))) (by rfl)) (ds_one (ds_ret (de_bl))) (ds_nil))))))) (ds_one (ds_ret (de_and (de_cmp (or_notin hr.u65) od_notin (de_bl) (de_call0H h_law_kinds hr (by decide) tk) (by rfl)) (de_and1 (de_cmp (or_notin hr.u65) od_notin (de_bl) (de_call0H h_law_told hr (by decide) tk) (by rfl))))))
theorem ln_law : ∀ ds M Q R, S_law ds M Q R → ds.length = 1 := by
  rintro ds M Q R ⟨_, rfl, _⟩
  rfl
theorem fn_law {P : Program} {w : World} {K : PySem.W.Frag} {mg : Str → Option Value} {base : Heap} (C : Fc P w K mg base) {fd : FuncData} (F : FunD K "law" "law" (defArgs (top 81)) (defBody (top 81)) (defScope (top 81)) [] [] (He.ga K "law") fd) : FnD P w K mg base 11 (He.ga K "law") fd ["script"] S_law := by
  have h_law_can := hs_law_can C 
  have h_law_lift := hs_law_lift C 
  have h_is_integer := hs_is_integer C 
  have h_are_weekdays := hs_are_weekdays C 
  have h_is_house := hs_is_house C h_is_integer h_are_weekdays
  have h_need_house := hs_need_house C h_is_house
  have h_is_calendar := hs_is_calendar C h_is_integer
  have h_need_calendar := hs_need_calendar C h_is_calendar
  have h_need_number := hs_need_number C h_is_integer
  have h_day_by := hs_day_by C 
  have h_figure_of := hs_figure_of C 
  have h_begins_on := hs_begins_on C h_figure_of
  have h_most_done := hs_most_done C h_figure_of
  have h_waits_behind := hs_waits_behind C h_begins_on h_most_done
  have h_week_behind := hs_week_behind C h_waits_behind
  have h_waits_ahead := hs_waits_ahead C h_waits_behind h_week_behind
  have h_done_on_by := hs_done_on_by C h_day_by h_most_done h_waits_ahead
  have h_done_on := hs_done_on C h_need_house h_need_calendar h_need_number h_done_on_by
  have h_need_day := hs_need_day C h_is_integer
  have h_rounds_before := hs_rounds_before C h_figure_of
  have h_waits_at := hs_waits_at C h_waits_behind h_waits_ahead
  have h_done_by := hs_done_by C h_rounds_before h_waits_at
  have h_done_at := hs_done_at C h_need_house h_need_calendar h_waits_ahead h_need_day h_rounds_before h_done_by
  have h_waiting := hs_waiting C h_need_house h_need_calendar h_need_day h_waits_at
  have h_done_upto := hs_done_upto C h_need_house h_need_calendar h_need_day h_done_by
  have h_round_on := hs_round_on C h_need_house h_begins_on h_need_day h_rounds_before
  have h_day_of := hs_day_of C h_need_house h_need_number h_day_by
  have h_law_week := hs_law_week C h_done_on h_done_at h_waiting h_done_upto h_round_on h_day_of
  have h_need_kind := hs_need_kind C h_are_weekdays h_need_number
  have h_grows := hs_grows C 
  have h_late_by := hs_late_by C h_day_by h_rounds_before
  have h_next_stands := hs_next_stands C h_begins_on h_most_done h_late_by
  have h_greatest_by := hs_greatest_by C h_grows h_next_stands
  have h_latest := hs_latest C h_need_house h_need_kind h_greatest_by
  have h_most_waiting := hs_most_waiting C h_need_house h_need_kind h_greatest_by
  have h_all_quiet := hs_all_quiet C h_begins_on h_most_done
  have h_is_late := hs_is_late C h_day_by h_rounds_before
  have h_has_late := hs_has_late C h_is_late
  have h_fewest_by := hs_fewest_by C h_begins_on h_all_quiet h_has_late
  have h_fewest := hs_fewest C h_need_house h_need_number h_fewest_by
  have h_never_slower := hs_never_slower C h_need_house h_most_done
  have h_law_kinds := hs_law_kinds C h_latest h_most_waiting h_fewest h_never_slower
  have h_is_seen := hs_is_seen C 
  have h_all_runs := hs_all_runs C 
  have h_counts_of := hs_counts_of C h_begins_on h_most_done
  have h_goes_with := hs_goes_with C h_counts_of
  have h_houses_for := hs_houses_for C h_are_weekdays h_is_house h_need_calendar h_is_seen h_all_runs h_goes_with
  have h_untrue := hs_untrue C h_need_house h_need_calendar h_need_number h_counts_of
  have h_text_of := hs_text_of C 
  have h_house_text := hs_house_text C h_need_house h_text_of
  have h_house_in := hs_house_in C 
  have h_read_house := hs_read_house C h_is_house h_house_in
  have h_law_told := hs_law_told C h_houses_for h_untrue h_house_text h_read_house
  exact fnD F sc_law ln_law (fun cdv A outer s H E hr => dv_law C h_law_can h_law_lift h_law_week h_law_kinds h_law_told _ cdv A outer s H E hr) kp_law
end Dl
namespace Dl
open PySem PySem.Spec PyProof.Rows L2
def df_law_can : He.DefD := ⟨("_law_can", none), "_law_can", "_law_can", defArgs (top 75), defBody (top 75), defScope (top 75), [], []⟩
def df_law_lift : He.DefD := ⟨("_law_lift", none), "_law_lift", "_law_lift", defArgs (top 76), defBody (top 76), defScope (top 76), [], []⟩
def df_is_integer : He.DefD := ⟨("is_integer", none), "is_integer", "is_integer", defArgs (top 16), defBody (top 16), defScope (top 16), [], []⟩
def df_are_weekdays : He.DefD := ⟨("are_weekdays", none), "are_weekdays", "are_weekdays", defArgs (top 17), defBody (top 17), defScope (top 17), [], []⟩
def df_is_house : He.DefD := ⟨("is_house", none), "is_house", "is_house", defArgs (top 18), defBody (top 18), defScope (top 18), [], []⟩
def df_need_house : He.DefD := ⟨("need_house", none), "need_house", "need_house", defArgs (top 20), defBody (top 20), defScope (top 20), [], []⟩
def df_is_calendar : He.DefD := ⟨("is_calendar", none), "is_calendar", "is_calendar", defArgs (top 19), defBody (top 19), defScope (top 19), [], []⟩
def df_need_calendar : He.DefD := ⟨("need_calendar", none), "need_calendar", "need_calendar", defArgs (top 21), defBody (top 21), defScope (top 21), [], []⟩
def df_need_number : He.DefD := ⟨("need_number", none), "need_number", "need_number", defArgs (top 23), defBody (top 23), defScope (top 23), [], []⟩
def df_day_by : He.DefD := ⟨("day_by", none), "day_by", "day_by", defArgs (top 27), defBody (top 27), defScope (top 27), [], []⟩
def df_figure_of : He.DefD := ⟨("figure_of", none), "figure_of", "figure_of", defArgs (top 25), defBody (top 25), defScope (top 25), [], []⟩
def df_begins_on : He.DefD := ⟨("begins_on", none), "begins_on", "begins_on", defArgs (top 28), defBody (top 28), defScope (top 28), [], []⟩
def df_most_done : He.DefD := ⟨("most_done", none), "most_done", "most_done", defArgs (top 29), defBody (top 29), defScope (top 29), [], []⟩
def df_waits_behind : He.DefD := ⟨("waits_behind", none), "waits_behind", "waits_behind", defArgs (top 30), defBody (top 30), defScope (top 30), [], []⟩
def df_week_behind : He.DefD := ⟨("week_behind", none), "week_behind", "week_behind", defArgs (top 51), defBody (top 51), defScope (top 51), [], []⟩
def df_waits_ahead : He.DefD := ⟨("waits_ahead", none), "waits_ahead", "waits_ahead", defArgs (top 52), defBody (top 52), defScope (top 52), [], []⟩
def df_done_on_by : He.DefD := ⟨("done_on_by", none), "done_on_by", "done_on_by", defArgs (top 55), defBody (top 55), defScope (top 55), [], []⟩
def df_done_on : He.DefD := ⟨("done_on", none), "done_on", "done_on", defArgs (top 56), defBody (top 56), defScope (top 56), [], []⟩
def df_need_day : He.DefD := ⟨("need_day", none), "need_day", "need_day", defArgs (top 22), defBody (top 22), defScope (top 22), [], []⟩
def df_rounds_before : He.DefD := ⟨("rounds_before", none), "rounds_before", "rounds_before", defArgs (top 26), defBody (top 26), defScope (top 26), [], []⟩
def df_waits_at : He.DefD := ⟨("waits_at", none), "waits_at", "waits_at", defArgs (top 53), defBody (top 53), defScope (top 53), [], []⟩
def df_done_by : He.DefD := ⟨("done_by", none), "done_by", "done_by", defArgs (top 54), defBody (top 54), defScope (top 54), [], []⟩
def df_done_at : He.DefD := ⟨("done_at", none), "done_at", "done_at", defArgs (top 59), defBody (top 59), defScope (top 59), [], []⟩
def df_waiting : He.DefD := ⟨("waiting", none), "waiting", "waiting", defArgs (top 58), defBody (top 58), defScope (top 58), [], []⟩
def df_done_upto : He.DefD := ⟨("done_upto", none), "done_upto", "done_upto", defArgs (top 57), defBody (top 57), defScope (top 57), [], []⟩
def df_round_on : He.DefD := ⟨("round_on", none), "round_on", "round_on", defArgs (top 31), defBody (top 31), defScope (top 31), [], []⟩
def df_day_of : He.DefD := ⟨("day_of", none), "day_of", "day_of", defArgs (top 32), defBody (top 32), defScope (top 32), [], []⟩
def df_law_week : He.DefD := ⟨("_law_week", none), "_law_week", "_law_week", defArgs (top 78), defBody (top 78), defScope (top 78), [], []⟩
def df_need_kind : He.DefD := ⟨("need_kind", none), "need_kind", "need_kind", defArgs (top 24), defBody (top 24), defScope (top 24), [], []⟩
def df_grows : He.DefD := ⟨("grows", none), "grows", "grows", defArgs (top 44), defBody (top 44), defScope (top 44), [], []⟩
def df_late_by : He.DefD := ⟨("late_by", none), "late_by", "late_by", defArgs (top 45), defBody (top 45), defScope (top 45), [], []⟩
def df_next_stands : He.DefD := ⟨("next_stands", none), "next_stands", "next_stands", defArgs (top 46), defBody (top 46), defScope (top 46), [], []⟩
def df_greatest_by : He.DefD := ⟨("greatest_by", none), "greatest_by", "greatest_by", defArgs (top 47), defBody (top 47), defScope (top 47), [], []⟩
def df_latest : He.DefD := ⟨("latest", none), "latest", "latest", defArgs (top 48), defBody (top 48), defScope (top 48), [], []⟩
def df_most_waiting : He.DefD := ⟨("most_waiting", none), "most_waiting", "most_waiting", defArgs (top 49), defBody (top 49), defScope (top 49), [], []⟩
def df_all_quiet : He.DefD := ⟨("all_quiet", none), "all_quiet", "all_quiet", defArgs (top 37), defBody (top 37), defScope (top 37), [], []⟩
def df_is_late : He.DefD := ⟨("is_late", none), "is_late", "is_late", defArgs (top 36), defBody (top 36), defScope (top 36), [], []⟩
def df_has_late : He.DefD := ⟨("has_late", none), "has_late", "has_late", defArgs (top 38), defBody (top 38), defScope (top 38), [], []⟩
def df_fewest_by : He.DefD := ⟨("fewest_by", none), "fewest_by", "fewest_by", defArgs (top 39), defBody (top 39), defScope (top 39), [], []⟩
def df_fewest : He.DefD := ⟨("fewest", none), "fewest", "fewest", defArgs (top 40), defBody (top 40), defScope (top 40), [], []⟩
def df_never_slower : He.DefD := ⟨("never_slower", none), "never_slower", "never_slower", defArgs (top 41), defBody (top 41), defScope (top 41), [], []⟩
def df_law_kinds : He.DefD := ⟨("_law_kinds", none), "_law_kinds", "_law_kinds", defArgs (top 79), defBody (top 79), defScope (top 79), [], []⟩
def df_is_seen : He.DefD := ⟨("is_seen", none), "is_seen", "is_seen", defArgs (top 63), defBody (top 63), defScope (top 63), [], []⟩
def df_all_runs : He.DefD := ⟨("all_runs", none), "all_runs", "all_runs", defArgs (top 66), defBody (top 66), defScope (top 66), [], []⟩
def df_counts_of : He.DefD := ⟨("counts_of", none), "counts_of", "counts_of", defArgs (top 64), defBody (top 64), defScope (top 64), [], []⟩
def df_goes_with : He.DefD := ⟨("goes_with", none), "goes_with", "goes_with", defArgs (top 65), defBody (top 65), defScope (top 65), [], []⟩
def df_houses_for : He.DefD := ⟨("houses_for", none), "houses_for", "houses_for", defArgs (top 67), defBody (top 67), defScope (top 67), [], []⟩
def df_untrue : He.DefD := ⟨("untrue", none), "untrue", "untrue", defArgs (top 68), defBody (top 68), defScope (top 68), [], []⟩
def df_text_of : He.DefD := ⟨("text_of", none), "text_of", "text_of", defArgs (top 70), defBody (top 70), defScope (top 70), [], []⟩
def df_house_text : He.DefD := ⟨("house_text", none), "house_text", "house_text", defArgs (top 71), defBody (top 71), defScope (top 71), [], []⟩
def df_house_in : He.DefD := ⟨("house_in", none), "house_in", "house_in", defArgs (top 72), defBody (top 72), defScope (top 72), [], []⟩
def df_read_house : He.DefD := ⟨("read_house", none), "read_house", "read_house", defArgs (top 73), defBody (top 73), defScope (top 73), [], []⟩
def df_law_told : He.DefD := ⟨("_law_told", none), "_law_told", "_law_told", defArgs (top 80), defBody (top 80), defScope (top 80), [], []⟩
def df_law : He.DefD := ⟨("law", none), "law", "law", defArgs (top 81), defBody (top 81), defScope (top 81), [], []⟩
def fn : List He.DefD := [df_law_can, df_law_lift, df_is_integer, df_are_weekdays, df_is_house, df_need_house, df_is_calendar, df_need_calendar, df_need_number, df_day_by, df_figure_of, df_begins_on, df_most_done, df_waits_behind, df_week_behind, df_waits_ahead, df_done_on_by, df_done_on, df_need_day, df_rounds_before, df_waits_at, df_done_by, df_done_at, df_waiting, df_done_upto, df_round_on, df_day_of, df_law_week, df_need_kind, df_grows, df_late_by, df_next_stands, df_greatest_by, df_latest, df_most_waiting, df_all_quiet, df_is_late, df_has_late, df_fewest_by, df_fewest, df_never_slower, df_law_kinds, df_is_seen, df_all_runs, df_counts_of, df_goes_with, df_houses_for, df_untrue, df_text_of, df_house_text, df_house_in, df_read_house, df_law_told, df_law]
def fa : List He.Fa := [.free "len",
  .free "isinstance",
  .free "int",
  .free "str",
  .free "tuple",
  .free "bool",
  .free "list",
  .free "all",
  .free "any",
  .free "range",
  .free "min",
  .free "max",
  .free "zip",
  .free "enumerate",
  .free "sorted",
  .free "set",
  .free "abs",
  .free "sum",
  .int "GREAT" 1000000000000000000000000000000,
  .str "FIGURES" ("0123456" : Str),
  .int "WEEK" 7,
  .int "MOST_SPEED" 3,
  .int "MOST_HOLIDAYS" 20,
  .int "MOST_LATE" 40,
  .int "LONG_harming" 70000,
  .int "LONG_latest" 70000,
  .int "MOST_SEEN" 40,
  .str "SIGNS" ("0123." : Str),
  .glo "RoundError",
  .exc "RoundError",
  .glo "InvalidHouse",
  .exc "InvalidHouse",
  .glo "InvalidCalendar",
  .exc "InvalidCalendar",
  .glo "InvalidDay",
  .exc "InvalidDay",
  .glo "InvalidNumber",
  .exc "InvalidNumber",
  .glo "InvalidWeekdays",
  .exc "InvalidWeekdays",
  .glo "InvalidSeen",
  .exc "InvalidSeen",
  .glo "InvalidText",
  .exc "InvalidText",
  .glo "Unlike",
  .exc "Unlike",
  .glo "_law_can",
  .glo "_law_lift",
  .glo "is_integer",
  .glo "are_weekdays",
  .glo "is_house",
  .glo "need_house",
  .glo "is_calendar",
  .glo "need_calendar",
  .glo "need_number",
  .glo "day_by",
  .glo "figure_of",
  .glo "begins_on",
  .glo "most_done",
  .glo "waits_behind",
  .glo "week_behind",
  .glo "waits_ahead",
  .glo "done_on_by",
  .glo "done_on",
  .glo "need_day",
  .glo "rounds_before",
  .glo "waits_at",
  .glo "done_by",
  .glo "done_at",
  .glo "waiting",
  .glo "done_upto",
  .glo "round_on",
  .glo "day_of",
  .glo "_law_week",
  .glo "need_kind",
  .glo "grows",
  .glo "late_by",
  .glo "next_stands",
  .glo "greatest_by",
  .glo "latest",
  .glo "most_waiting",
  .glo "all_quiet",
  .glo "is_late",
  .glo "has_late",
  .glo "fewest_by",
  .glo "fewest",
  .glo "never_slower",
  .glo "_law_kinds",
  .glo "is_seen",
  .glo "all_runs",
  .glo "counts_of",
  .glo "goes_with",
  .glo "houses_for",
  .glo "untrue",
  .glo "text_of",
  .glo "house_text",
  .glo "house_in",
  .glo "read_house",
  .glo "_law_told",
  .glo "law"]
def nm0 : List Str := ["__name__", "RoundError", "InvalidHouse", "InvalidCalendar", "InvalidDay", "InvalidNumber", "InvalidWeekdays", "InvalidSeen", "InvalidText", "Unlike", "GREAT", "FIGURES", "WEEK", "MOST_SPEED", "MOST_HOLIDAYS", "is_integer", "are_weekdays", "is_house", "is_calendar", "need_house", "need_calendar", "need_day", "need_number", "need_kind", "figure_of", "rounds_before", "day_by", "begins_on", "most_done", "waits_behind"]
def nm1 : List Str := ["round_on", "day_of", "MOST_LATE", "LONG_harming", "is_late", "all_quiet", "has_late", "fewest_by", "fewest", "never_slower", "LONG_latest", "grows", "late_by", "next_stands", "greatest_by", "latest", "most_waiting", "week_behind", "waits_ahead", "waits_at", "done_by", "done_on_by", "done_on", "done_upto", "waiting", "done_at", "MOST_SEEN", "SIGNS", "is_seen", "counts_of"]
def nm2 : List Str := ["goes_with", "all_runs", "houses_for", "untrue", "text_of", "house_text", "house_in", "read_house", "_law_can", "_law_lift", "_law_pick", "_law_week", "_law_kinds", "_law_told"]
def loose : List Str := nm0 ++ nm1 ++ nm2
abbrev RO : PySem.W.OpenRow := PySem.W.OpenLaw.row PySem.Challenge.rw_pushedrounds_k13_known_houses_by_hand
abbrev hk : PySem.W.Hook := He.hookX 5 fa fn [] [] (fun _ => true)
def ob (s : PySem.W.SharedT) : He.AlX := He.obsX 5 fa fn [] [] (fun _ => true) (HandSHeadRun.getT s)
theorem ob_eq (s : PySem.W.SharedT) : ob s = hk.obs s.abs := He.obsX_eq (HandSHeadRun.getT_eq s)
set_option maxHeartbeats 0 in
theorem run (w : World) : HandSHeadRun.RunEq RO (PySem.W.view RO.prog [81]) hk ob 6000 loose w := by
  intro os
  kernel_rfl
end Dl
namespace Dl
open PySem PySem.Spec PyProof.Rows L2
theorem fc_of {P : Program} {w : World} {K : PySem.W.Frag} {h : Heap} {mg : Str → Option Value} {base : Heap} (KX : K.In h) (G : h.Ns mainGlobals mg) (c : He.SaysD fa fn K) : Fc P w K mg base where
  b_len := He.free_ok KX G (c.fact 0 (f := .free "len") rfl)
  b_isinstance := He.free_ok KX G (c.fact 1 (f := .free "isinstance") rfl)
  b_int := He.free_ok KX G (c.fact 2 (f := .free "int") rfl)
  b_str := He.free_ok KX G (c.fact 3 (f := .free "str") rfl)
  b_tuple := He.free_ok KX G (c.fact 4 (f := .free "tuple") rfl)
  b_bool := He.free_ok KX G (c.fact 5 (f := .free "bool") rfl)
  b_list := He.free_ok KX G (c.fact 6 (f := .free "list") rfl)
  b_all := He.free_ok KX G (c.fact 7 (f := .free "all") rfl)
  b_any := He.free_ok KX G (c.fact 8 (f := .free "any") rfl)
  b_range := He.free_ok KX G (c.fact 9 (f := .free "range") rfl)
  b_min := He.free_ok KX G (c.fact 10 (f := .free "min") rfl)
  b_max := He.free_ok KX G (c.fact 11 (f := .free "max") rfl)
  b_zip := He.free_ok KX G (c.fact 12 (f := .free "zip") rfl)
  b_enumerate := He.free_ok KX G (c.fact 13 (f := .free "enumerate") rfl)
  b_sorted := He.free_ok KX G (c.fact 14 (f := .free "sorted") rfl)
  b_set := He.free_ok KX G (c.fact 15 (f := .free "set") rfl)
  b_abs := He.free_ok KX G (c.fact 16 (f := .free "abs") rfl)
  b_sum := He.free_ok KX G (c.fact 17 (f := .free "sum") rfl)
  c_GREAT := He.int_ok KX G (c.fact 18 (f := .int "GREAT" 1000000000000000000000000000000) rfl)
  c_FIGURES := He.str_ok KX G (c.fact 19 (f := .str "FIGURES" ("0123456" : Str)) rfl)
  c_WEEK := He.int_ok KX G (c.fact 20 (f := .int "WEEK" 7) rfl)
  c_MOST_SPEED := He.int_ok KX G (c.fact 21 (f := .int "MOST_SPEED" 3) rfl)
  c_MOST_HOLIDAYS := He.int_ok KX G (c.fact 22 (f := .int "MOST_HOLIDAYS" 20) rfl)
  c_MOST_LATE := He.int_ok KX G (c.fact 23 (f := .int "MOST_LATE" 40) rfl)
  c_LONG_harming := He.int_ok KX G (c.fact 24 (f := .int "LONG_harming" 70000) rfl)
  c_LONG_latest := He.int_ok KX G (c.fact 25 (f := .int "LONG_latest" 70000) rfl)
  c_MOST_SEEN := He.int_ok KX G (c.fact 26 (f := .int "MOST_SEEN" 40) rfl)
  c_SIGNS := He.str_ok KX G (c.fact 27 (f := .str "SIGNS" ("0123." : Str)) rfl)
  g_RoundError := He.glo_ok KX G (c.fact 28 (f := .glo "RoundError") rfl)
  x_RoundError := c.fact 29 (f := .exc "RoundError") rfl
  g_InvalidHouse := He.glo_ok KX G (c.fact 30 (f := .glo "InvalidHouse") rfl)
  x_InvalidHouse := c.fact 31 (f := .exc "InvalidHouse") rfl
  g_InvalidCalendar := He.glo_ok KX G (c.fact 32 (f := .glo "InvalidCalendar") rfl)
  x_InvalidCalendar := c.fact 33 (f := .exc "InvalidCalendar") rfl
  g_InvalidDay := He.glo_ok KX G (c.fact 34 (f := .glo "InvalidDay") rfl)
  x_InvalidDay := c.fact 35 (f := .exc "InvalidDay") rfl
  g_InvalidNumber := He.glo_ok KX G (c.fact 36 (f := .glo "InvalidNumber") rfl)
  x_InvalidNumber := c.fact 37 (f := .exc "InvalidNumber") rfl
  g_InvalidWeekdays := He.glo_ok KX G (c.fact 38 (f := .glo "InvalidWeekdays") rfl)
  x_InvalidWeekdays := c.fact 39 (f := .exc "InvalidWeekdays") rfl
  g_InvalidSeen := He.glo_ok KX G (c.fact 40 (f := .glo "InvalidSeen") rfl)
  x_InvalidSeen := c.fact 41 (f := .exc "InvalidSeen") rfl
  g_InvalidText := He.glo_ok KX G (c.fact 42 (f := .glo "InvalidText") rfl)
  x_InvalidText := c.fact 43 (f := .exc "InvalidText") rfl
  g_Unlike := He.glo_ok KX G (c.fact 44 (f := .glo "Unlike") rfl)
  x_Unlike := c.fact 45 (f := .exc "Unlike") rfl
  g_law_can := He.glo_ok KX G (c.fact 46 (f := .glo "_law_can") rfl)
  f_law_can := c.def_ 0 (d := df_law_can) rfl
  g_law_lift := He.glo_ok KX G (c.fact 47 (f := .glo "_law_lift") rfl)
  f_law_lift := c.def_ 1 (d := df_law_lift) rfl
  g_is_integer := He.glo_ok KX G (c.fact 48 (f := .glo "is_integer") rfl)
  f_is_integer := c.def_ 2 (d := df_is_integer) rfl
  g_are_weekdays := He.glo_ok KX G (c.fact 49 (f := .glo "are_weekdays") rfl)
  f_are_weekdays := c.def_ 3 (d := df_are_weekdays) rfl
  g_is_house := He.glo_ok KX G (c.fact 50 (f := .glo "is_house") rfl)
  f_is_house := c.def_ 4 (d := df_is_house) rfl
  g_need_house := He.glo_ok KX G (c.fact 51 (f := .glo "need_house") rfl)
  f_need_house := c.def_ 5 (d := df_need_house) rfl
  g_is_calendar := He.glo_ok KX G (c.fact 52 (f := .glo "is_calendar") rfl)
  f_is_calendar := c.def_ 6 (d := df_is_calendar) rfl
  g_need_calendar := He.glo_ok KX G (c.fact 53 (f := .glo "need_calendar") rfl)
  f_need_calendar := c.def_ 7 (d := df_need_calendar) rfl
  g_need_number := He.glo_ok KX G (c.fact 54 (f := .glo "need_number") rfl)
  f_need_number := c.def_ 8 (d := df_need_number) rfl
  g_day_by := He.glo_ok KX G (c.fact 55 (f := .glo "day_by") rfl)
  f_day_by := c.def_ 9 (d := df_day_by) rfl
  g_figure_of := He.glo_ok KX G (c.fact 56 (f := .glo "figure_of") rfl)
  f_figure_of := c.def_ 10 (d := df_figure_of) rfl
  g_begins_on := He.glo_ok KX G (c.fact 57 (f := .glo "begins_on") rfl)
  f_begins_on := c.def_ 11 (d := df_begins_on) rfl
  g_most_done := He.glo_ok KX G (c.fact 58 (f := .glo "most_done") rfl)
  f_most_done := c.def_ 12 (d := df_most_done) rfl
  g_waits_behind := He.glo_ok KX G (c.fact 59 (f := .glo "waits_behind") rfl)
  f_waits_behind := c.def_ 13 (d := df_waits_behind) rfl
  g_week_behind := He.glo_ok KX G (c.fact 60 (f := .glo "week_behind") rfl)
  f_week_behind := c.def_ 14 (d := df_week_behind) rfl
  g_waits_ahead := He.glo_ok KX G (c.fact 61 (f := .glo "waits_ahead") rfl)
  f_waits_ahead := c.def_ 15 (d := df_waits_ahead) rfl
  g_done_on_by := He.glo_ok KX G (c.fact 62 (f := .glo "done_on_by") rfl)
  f_done_on_by := c.def_ 16 (d := df_done_on_by) rfl
  g_done_on := He.glo_ok KX G (c.fact 63 (f := .glo "done_on") rfl)
  f_done_on := c.def_ 17 (d := df_done_on) rfl
  g_need_day := He.glo_ok KX G (c.fact 64 (f := .glo "need_day") rfl)
  f_need_day := c.def_ 18 (d := df_need_day) rfl
  g_rounds_before := He.glo_ok KX G (c.fact 65 (f := .glo "rounds_before") rfl)
  f_rounds_before := c.def_ 19 (d := df_rounds_before) rfl
  g_waits_at := He.glo_ok KX G (c.fact 66 (f := .glo "waits_at") rfl)
  f_waits_at := c.def_ 20 (d := df_waits_at) rfl
  g_done_by := He.glo_ok KX G (c.fact 67 (f := .glo "done_by") rfl)
  f_done_by := c.def_ 21 (d := df_done_by) rfl
  g_done_at := He.glo_ok KX G (c.fact 68 (f := .glo "done_at") rfl)
  f_done_at := c.def_ 22 (d := df_done_at) rfl
  g_waiting := He.glo_ok KX G (c.fact 69 (f := .glo "waiting") rfl)
  f_waiting := c.def_ 23 (d := df_waiting) rfl
  g_done_upto := He.glo_ok KX G (c.fact 70 (f := .glo "done_upto") rfl)
  f_done_upto := c.def_ 24 (d := df_done_upto) rfl
  g_round_on := He.glo_ok KX G (c.fact 71 (f := .glo "round_on") rfl)
  f_round_on := c.def_ 25 (d := df_round_on) rfl
  g_day_of := He.glo_ok KX G (c.fact 72 (f := .glo "day_of") rfl)
  f_day_of := c.def_ 26 (d := df_day_of) rfl
  g_law_week := He.glo_ok KX G (c.fact 73 (f := .glo "_law_week") rfl)
  f_law_week := c.def_ 27 (d := df_law_week) rfl
  g_need_kind := He.glo_ok KX G (c.fact 74 (f := .glo "need_kind") rfl)
  f_need_kind := c.def_ 28 (d := df_need_kind) rfl
  g_grows := He.glo_ok KX G (c.fact 75 (f := .glo "grows") rfl)
  f_grows := c.def_ 29 (d := df_grows) rfl
  g_late_by := He.glo_ok KX G (c.fact 76 (f := .glo "late_by") rfl)
  f_late_by := c.def_ 30 (d := df_late_by) rfl
  g_next_stands := He.glo_ok KX G (c.fact 77 (f := .glo "next_stands") rfl)
  f_next_stands := c.def_ 31 (d := df_next_stands) rfl
  g_greatest_by := He.glo_ok KX G (c.fact 78 (f := .glo "greatest_by") rfl)
  f_greatest_by := c.def_ 32 (d := df_greatest_by) rfl
  g_latest := He.glo_ok KX G (c.fact 79 (f := .glo "latest") rfl)
  f_latest := c.def_ 33 (d := df_latest) rfl
  g_most_waiting := He.glo_ok KX G (c.fact 80 (f := .glo "most_waiting") rfl)
  f_most_waiting := c.def_ 34 (d := df_most_waiting) rfl
  g_all_quiet := He.glo_ok KX G (c.fact 81 (f := .glo "all_quiet") rfl)
  f_all_quiet := c.def_ 35 (d := df_all_quiet) rfl
  g_is_late := He.glo_ok KX G (c.fact 82 (f := .glo "is_late") rfl)
  f_is_late := c.def_ 36 (d := df_is_late) rfl
  g_has_late := He.glo_ok KX G (c.fact 83 (f := .glo "has_late") rfl)
  f_has_late := c.def_ 37 (d := df_has_late) rfl
  g_fewest_by := He.glo_ok KX G (c.fact 84 (f := .glo "fewest_by") rfl)
  f_fewest_by := c.def_ 38 (d := df_fewest_by) rfl
  g_fewest := He.glo_ok KX G (c.fact 85 (f := .glo "fewest") rfl)
  f_fewest := c.def_ 39 (d := df_fewest) rfl
  g_never_slower := He.glo_ok KX G (c.fact 86 (f := .glo "never_slower") rfl)
  f_never_slower := c.def_ 40 (d := df_never_slower) rfl
  g_law_kinds := He.glo_ok KX G (c.fact 87 (f := .glo "_law_kinds") rfl)
  f_law_kinds := c.def_ 41 (d := df_law_kinds) rfl
  g_is_seen := He.glo_ok KX G (c.fact 88 (f := .glo "is_seen") rfl)
  f_is_seen := c.def_ 42 (d := df_is_seen) rfl
  g_all_runs := He.glo_ok KX G (c.fact 89 (f := .glo "all_runs") rfl)
  f_all_runs := c.def_ 43 (d := df_all_runs) rfl
  g_counts_of := He.glo_ok KX G (c.fact 90 (f := .glo "counts_of") rfl)
  f_counts_of := c.def_ 44 (d := df_counts_of) rfl
  g_goes_with := He.glo_ok KX G (c.fact 91 (f := .glo "goes_with") rfl)
  f_goes_with := c.def_ 45 (d := df_goes_with) rfl
  g_houses_for := He.glo_ok KX G (c.fact 92 (f := .glo "houses_for") rfl)
  f_houses_for := c.def_ 46 (d := df_houses_for) rfl
  g_untrue := He.glo_ok KX G (c.fact 93 (f := .glo "untrue") rfl)
  f_untrue := c.def_ 47 (d := df_untrue) rfl
  g_text_of := He.glo_ok KX G (c.fact 94 (f := .glo "text_of") rfl)
  f_text_of := c.def_ 48 (d := df_text_of) rfl
  g_house_text := He.glo_ok KX G (c.fact 95 (f := .glo "house_text") rfl)
  f_house_text := c.def_ 49 (d := df_house_text) rfl
  g_house_in := He.glo_ok KX G (c.fact 96 (f := .glo "house_in") rfl)
  f_house_in := c.def_ 50 (d := df_house_in) rfl
  g_read_house := He.glo_ok KX G (c.fact 97 (f := .glo "read_house") rfl)
  f_read_house := c.def_ 51 (d := df_read_house) rfl
  g_law_told := He.glo_ok KX G (c.fact 98 (f := .glo "_law_told") rfl)
  f_law_told := c.def_ 52 (d := df_law_told) rfl
  g_law := He.glo_ok KX G (c.fact 99 (f := .glo "law") rfl)
  f_law := c.def_ 53 (d := df_law) rfl
theorem law_at (w : World) (mg : Str → Option Value) (fa0 : Addr) (h : Heap) (Y : hk.says w h) (G : h.Ns mainGlobals mg) (hmg : mg "law" = some (.ref fa0)) :
    ∃ K : PySem.W.Frag, K.In h ∧ LamX.LawAtS PySem.Challenge.rw_pushedrounds_k13_known_houses_by_hand w K (L2.CX (PySem.Challenge.rw_pushedrounds_k13_known_houses_by_hand).prog w) 11 63 "script" mg fa0 h := by
  obtain ⟨K, KX, c⟩ := Y
  have C : ∀ base, Fc (PySem.Challenge.rw_pushedrounds_k13_known_houses_by_hand).prog w K mg base := fun base => fc_of KX G c.t.d
  have e := hmg.symm.trans (C h).g_law
  cases e
  obtain ⟨fd, F⟩ := (C h).f_law
  have b := FunD.bindsA (ps := ["script"]) F fun _ _ _ _ _ _ us hl => match us, hl with | [_], _ => rfl
  refine ⟨K, KX, fd, [], spOf K S_law, fun _ h => (by cases h), fun _ h => (by cases h), fun _ h => (by cases h), fun s v => b s [v] rfl, fun H a ns _ _ _ hS => ?_, fun base _ _ _ => fn_law (C base) F⟩
  exact ⟨H, [], [.scr ns], fun d _ => d = .bl true, fun _ _ => False, ⟨fun _ _ z => z, (fun _ _ z => (by cases z)), .nil⟩, .cons (.scr hS) .nil, ⟨ns, rfl, rfl⟩, fun Z' H' M' v d _ _ r q => (by subst q; cases r; rfl), fun _ _ _ _ _ _ _ _ _ q => q.elim⟩
end Dl
open PySem PySem.W PySem.Calls PyProof.Rows
theorem PySem.Challenge.cw_pushedrounds_k13_known_houses_by_hand_holds : PySem.Challenge.rw_pushedrounds_k13_known_houses_by_hand.Holds := by
  w_on; o_law
  refine HandSHeadRun.head_any (r := OpenLaw.row PySem.Challenge.rw_pushedrounds_k13_known_houses_by_hand) (q := view (OpenLaw.row PySem.Challenge.rw_pushedrounds_k13_known_houses_by_hand).prog [81]) (H := Dl.hk) (ob := Dl.ob) (M := 6000) (loose := Dl.loose) (d := HandSHeadRun.topDef (OpenLaw.row PySem.Challenge.rw_pushedrounds_k13_known_houses_by_hand).prog 81) (kwd := []) Dl.ob_eq
    (by kernel_rfl) (fun s => by kernel_rfl) Dl.run (by kernel_rfl) (by kernel_rfl) (by kernel_rfl) (by rfl) (by first | assumption | decide +kernel) (by decide +kernel) ⟨rfl, rfl, rfl, rfl, rfl, by decide +kernel⟩ ?hw ?hc
  case hw => w_witness2
  case hc =>
    refine LamX.walk_ofTsE (l := PySem.Challenge.rw_pushedrounds_k13_known_houses_by_hand) (n := 63) (k := 11) (x := "script") (CX := fun w => L2.CX (PySem.Challenge.rw_pushedrounds_k13_known_houses_by_hand).prog w) rfl (by decide) (by kernel_rfl) ⟨rfl, by decide, by decide⟩ ?F (fun _ _ _ _ _ z => by obtain ⟨_, _, _, _, _, z⟩ := z; exact z.2.2.2.2.2.2.2)
    intro w mg fa0 h Y G hmg0
    have hmg : mg ("law" : PySem.Str) = some (.ref fa0) := by
      have e : (HandSHeadRun.topDef (OpenLaw.row PySem.Challenge.rw_pushedrounds_k13_known_houses_by_hand).prog 81).name = ("law" : PySem.Str) := by kernel_rfl
      rw [← e]
      exact hmg0
    exact Dl.law_at w mg fa0 h Y G hmg
