import PyProof.Rows.All
import Wide.All
import OpenK.AllK
import Wide.FinOn
import HandS.ForMost
import KE.KeyNested
import KE.DataEq
import KE.SortData
import HandS.Lambda
import HandS.TupAny
import HandS.TupLe
import HandS.Wide
import HandS.Flow
import HandS.IsInst
import HandS.RaiseMore
import KE.DataMinMax
import HandS.TupMul
import HandS.WideBits
import HandS.TupLen
import HandS.SetKeys
import KE.KDictCopyH
import HandS.More
import HandS.Style
import KE.GoesEnum
import KE.GoesZip
import KE.GoesMore
import KE.KDictWalk
import KE.SortKeyHeap
import HandS.EndOwn
import PySem.Challenge.RW_lettersum_k20_put_together
set_option Elab.async false
set_option linter.all false
set_option maxRecDepth 100000
set_option maxHeartbeats 1000000
namespace L2
namespace Ev
open PyProof.Rows PySem.Spec PySem L2

/-! ### values without a heap -/
inductive D where
  | non | bl (b : Bool) | int (i : Int) | str (x : Str) | tup (xs : List D) | lst (xs : List D) | ref (n : Nat) | adr (a : Addr) | scr (ns : List Int)
instance : Inhabited D := ⟨.non⟩

/-- what a place of the store holds -/
inductive Cell where
  | lst (xs : List D) | dct (kvs : List (D × D)) | lck (kvs : List (D × D)) | ins (C : Addr) (fs : List (Str × D)) | dead
abbrev Store := List Cell
abbrev EnvD := List (Option D)

mutual
def D.beq : D → D → Bool
  | .non, .non => true
  | .bl a, .bl b => a == b
  | .int a, .int b => decide (a = b)
  | .str a, .str b => decide (a = b)
  | .tup a, .tup b => D.beqs a b
  | .lst a, .lst b => D.beqs a b
  | .ref a, .ref b => decide (a = b)
  | .adr a, .adr b => decide (a = b)
  | .scr a, .scr b => decide (a = b)
  | _, _ => false
def D.beqs : List D → List D → Bool
  | [], [] => true
  | x :: xs, y :: ys => D.beq x y && D.beqs xs ys
  | _, _ => false
end
mutual
theorem D.beq_iff : ∀ a b : D, D.beq a b = true ↔ a = b
  | .non, b => by cases b <;> simp [D.beq]
  | .bl x, b => by cases b <;> simp [D.beq]
  | .int x, b => by cases b <;> simp [D.beq]
  | .str x, b => by cases b <;> simp [D.beq]
  | .tup x, b => by cases b <;> simp [D.beq, D.beqs_iff x]
  | .lst x, b => by cases b <;> simp [D.beq, D.beqs_iff x]
  | .ref x, b => by cases b <;> simp [D.beq]
  | .adr x, b => by cases b <;> simp [D.beq]
  | .scr x, b => by cases b <;> simp [D.beq]
theorem D.beqs_iff : ∀ a b : List D, D.beqs a b = true ↔ a = b
  | [], b => by cases b <;> simp [D.beqs]
  | x :: xs, b => by cases b <;> simp [D.beqs, D.beq_iff x, D.beqs_iff xs]
end
instance : DecidableEq D := fun a b => if h : D.beq a b = true then .isTrue ((D.beq_iff a b).mp h) else .isFalse fun e => h ((D.beq_iff a b).mpr e)

/-! ### the world: the abstract heap, where the store's places stand, the store, what is being made -/
structure Wd where
  H : Hp
  μ : List Addr
  S : Store
  hid : List Addr

/-! ### tables of code objects: which there are, under which names -/
class Tb where
  T : List (Addr × Str)
def plainO (o : HO) : Prop := (∀ ps, o ≠ .tbl ps) ∧ ∀ c q, o ≠ LamX.CodeO c q
structure TabOk [Tb] (W : Wd) : Prop where
  tabs : LamX.Tabs Tb.T W.H
  pl : ∀ a ∈ W.hid, ∃ o, W.H a = some o ∧ plainO o
theorem codeO_pl {c : Addr} {q : Str} : ¬ plainO (LamX.CodeO c q) := fun h => h.2 c q rfl
theorem tbl_pl {ps : Array Value} : ¬ plainO (.tbl ps) := fun h => h.1 ps rfl
theorem TabOk.stay [Tb] {W W' : Wd} (t : TabOk W) (hH : ∀ b o, W.H b = some o → W'.H b = some o) (hh : ∀ a ∈ W'.hid, a ∈ W.hid ∨ ∃ o, W'.H a = some o ∧ plainO o) : TabOk W' :=
  ⟨t.tabs.ext hH, fun a ha => by
    rcases hh a ha with h | h
    · obtain ⟨o, h1, h2⟩ := t.pl a h
      exact ⟨o, hH a o h1, h2⟩
    · exact h⟩
theorem TabOk.put [Tb] {W W' : Wd} (t : TabOk W) {a : Addr} {u o : HO} (ha : W.H a = some u) (pu : plainO u) (hW : W'.H = upd W.H a o) (po : plainO o) (hh : ∀ b ∈ W'.hid, b ∈ W.hid ∨ b = a) : TabOk W' := by
  refine ⟨fun p hp => ?_, fun b hb => ?_⟩
  · obtain ⟨ps, h1, h2, h3⟩ := t.tabs p hp
    have n1 : p.1 ≠ a := fun z => by rw [z, ha] at h1; cases h1; exact tbl_pl pu
    refine ⟨ps, by rw [hW, upd_ne n1]; exact h1, h2, fun pos cv hc => ?_⟩
    obtain ⟨c, e1, e2⟩ := h3 pos cv hc
    have n2 : c ≠ a := fun z => by rw [z, ha] at e2; cases e2; exact codeO_pl pu
    exact ⟨c, e1, by rw [hW, upd_ne n2]; exact e2⟩
  · by_cases e : b = a
    · subst e; exact ⟨o, by rw [hW]; exact upd_same, po⟩
    · rcases hh b hb with h | h
      · obtain ⟨v, h1, h2⟩ := t.pl b h
        exact ⟨v, by rw [hW, upd_ne e]; exact h1, h2⟩
      · exact absurd h e
/-- no live place stands at a -/
def Fz (W : Wd) (a : Addr) : Prop := a ∉ W.hid ∧ ∀ (n : Nat) (c : Cell), W.μ[n]? = some a → W.S[n]? = some c → c = Cell.dead

/-- a locked list, or one of the module's -/
def LkL (K : PySem.W.Frag) (H : Hp) (a : Addr) (xs : List V) : Prop := (∃ o, H a = some (.frz o (.lst xs))) ∨
    ∃ (o : Obj) (its : Array Value) (n : Nat), K.lookup a = some o ∧ o.cls = .type "list" ∧ o.dict = none ∧ o.data = .seq its n ∧ its.size ≤ sizeLine ∧ Vals xs its.toList
theorem LkL.sq {K : PySem.W.Frag} {H : Hp} {a : Addr} {xs : List V} (h : LkL K H a xs) : SqL K H a xs := by
  rcases h with ⟨o, h⟩ | h
  · exact .inl (.inr ⟨o, h⟩)
  · exact .inr h
/-- .. or a list that none can reach otherwise -/
def LkS (K : PySem.W.Frag) (W : Wd) (a : Addr) (xs : List V) : Prop := LkL K W.H a xs ∨ (W.H a = some (.lst xs) ∧ Fz W a)
theorem LkS.sq {K : PySem.W.Frag} {W : Wd} {a : Addr} {xs : List V} (h : LkS K W a xs) : SqL K W.H a xs := by
  rcases h with h | h
  · exact h.sq
  · exact .inl (.inl h.1)
section
variable (K : PySem.W.Frag)
mutual
def Rp (W : Wd) : D → V → Prop
  | .non, v => v = V.non
  | .bl b, v => v = V.bl b
  | .int i, v => v = V.int i
  | .str x, v => v = V.str x
  | .tup ds, v => ∃ a vs, v = V.ref a ∧ SqT K W.H a vs ∧ Rps W ds vs
  | .lst ds, v => ∃ a vs, v = V.ref a ∧ W.H a = some (.lst vs) ∧ Fz W a ∧ Rps W ds vs
  | .ref n, v => ∃ a, v = V.ref a ∧ W.μ[n]? = some a
  | .adr a, v => v = V.ref a
  | .scr ns, v => ∃ a, v = V.ref a ∧ LkS K W a (ns.map V.int)
def Rps (W : Wd) : List D → List V → Prop
  | [], vs => vs = []
  | d :: ds, vs => ∃ v r, vs = v :: r ∧ Rp W d v ∧ Rps W ds r
end
/-- the names' values -/
def Rσ (W : Wd) (ρ : EnvD) (σ : St) : Prop := ρ.length = σ.length ∧ ∀ (i : Nat) (d : D), ρ[i]? = some (some d) → ∃ v, σ[i]? = some (some v) ∧ Rp K W d v
/-- fields -/
def Rfs (W : Wd) : List (Str × D) → List (Str × V) → Prop
  | [], vs => vs = []
  | (f, d) :: fs, vs => ∃ v r, vs = (f, v) :: r ∧ Rp K W d v ∧ Rfs W fs r
end

/-! ### keys -/
def keyD : Key → D
  | .inl i => .int i
  | .inr x => .str x
mutual
/-- the nested key of a value -/
def nkey : D → Option NestedKey
  | .non => some .none
  | .bl b => none
  | .int i => some (.num i)
  | .str x => some (.text x)
  | .tup ds => (nkeys ds).map .tup
  | _ => none
def nkeys : List D → Option (List NestedKey)
  | [] => some []
  | d :: ds => match nkey d, nkeys ds with
    | some k, some ks => some (k :: ks)
    | _, _ => none
end
mutual
theorem nkey_inj : ∀ (a b : D) (k : NestedKey), nkey a = some k → nkey b = some k → a = b
  | .non, b, k, h, h' => by
    simp only [nkey, Option.some.injEq] at h; subst h
    cases b <;> simp [nkey] at h' <;> rfl
  | .bl _, b, k, h, h' => by simp [nkey] at h
  | .int i, b, k, h, h' => by
    simp only [nkey, Option.some.injEq] at h; subst h
    cases b <;> simp [nkey] at h' <;> simp [h']
  | .str i, b, k, h, h' => by
    simp only [nkey, Option.some.injEq] at h; subst h
    cases b <;> simp [nkey] at h' <;> simp [h']
  | .tup ds, b, k, h, h' => by
    simp only [nkey, Option.map_eq_some_iff] at h
    obtain ⟨ks, h, rfl⟩ := h
    cases b with
    | tup es =>
      simp only [nkey, Option.map_eq_some_iff] at h'
      obtain ⟨ks', h', e⟩ := h'
      injection e with e
      subst e
      rw [nkeys_inj ds es _ h h']
    | _ => simp [nkey] at h'
  | .lst _, b, k, h, h' => by simp [nkey] at h
  | .ref _, b, k, h, h' => by simp [nkey] at h
  | .adr _, b, k, h, h' => by simp [nkey] at h
  | .scr _, b, k, h, h' => by simp [nkey] at h
theorem nkeys_inj : ∀ (a b : List D) (k : List NestedKey), nkeys a = some k → nkeys b = some k → a = b
  | [], b, k, h, h' => by
    simp only [nkeys, Option.some.injEq] at h; subst h
    cases b with
    | nil => rfl
    | cons d ds =>
      simp only [nkeys] at h'
      split at h' <;> simp at h'
  | a :: as, b, k, h, h' => by
    simp only [nkeys] at h
    split at h
    · rename_i x xs e1 e2
      cases h
      cases b with
      | nil => simp [nkeys] at h'
      | cons d ds =>
        simp only [nkeys] at h'
        split at h'
        · rename_i y ys e3 e4
          cases h'
          rw [nkey_inj a d x e1 e3, nkeys_inj as ds xs e2 e4]
        · simp at h'
    · simp at h
end

/-- entries with tuple keys, and their values in the heap -/
abbrev KN : List (NestedKey × Addr × V) → List (NestedKey × Addr × Value) → Prop := Paired fun p q => p.1 = q.1 ∧ p.2.1 = q.2.1 ∧ RelV p.2.2 q.2.2
/-- a dict whose keys are tuples: the entries' keys stand at addresses -/
def ObN (P : Program) (w : World) (a : Addr) (ks : List (NestedKey × Addr × V)) : HO := HO.ext fun h =>
  (a == sysModules) = false ∧ ∃ xs : List (NestedKey × Addr × Value), KN ks xs ∧ ∃ o es ep, h.get? a = some o ∧ o.ExactDict ∧ o.data = .dict es ep ∧
    es.toList = xs.map (entryOfKey (nestedKind P w)) ∧ (xs.map (·.1)).Nodup

section
variable (P : Program) (w : World) (K : PySem.W.Frag)
/-- the dict's entries, keys by value -/
def RkK (W : Wd) : List (D × D) → List (Key × V) → Prop
  | [], ks => ks = []
  | (k, d) :: r, ks => ∃ (key : Key) (v : V) (t : List (Key × V)), ks = (key, v) :: t ∧ k = keyD key ∧ Rp K W d v ∧ RkK W r t
/-- the dict's entries, keys tuples -/
def RkN (W : Wd) : List (D × D) → List (NestedKey × Addr × V) → Prop
  | [], ks => ks = []
  | (k, d) :: r, ks => ∃ (n : NestedKey) (b : Addr) (v : V) (t : List (NestedKey × Addr × V)), ks = (n, b, v) :: t ∧ nkey k = some n ∧ n.depth ≤ 8 ∧ (∃ es, k = .tup es) ∧ Rp K W k (.ref b) ∧ Rp K W d v ∧ RkN W r t
/-- what is known of the object of a dict with these entries -/
def DcOb (W : Wd) (a : Addr) (kvs : List (D × D)) (o : HO) : Prop :=
  kvs.length ≤ sizeLine ∧ ((∃ ks, o = .dK ks ∧ RkK K W kvs ks) ∨ (kvs ≠ [] ∧ ∃ ks, o = ObN P w a ks ∧ RkN K W kvs ks))
/-- a place's object -/
def CellOk (W : Wd) (a : Addr) : Cell → Prop
  | .lst xs => ∃ vs, W.H a = some (.lst vs) ∧ Rps K W xs vs
  | .dct kvs => ∃ o, W.H a = some o ∧ DcOb P w K W a kvs o
  | .lck kvs => ∃ ob o, W.H a = some (.frz ob o) ∧ DcOb P w K W a kvs o
  | .ins C fs => ∃ dx vs, W.H a = some (.ins C dx vs) ∧ Rfs K W fs vs
  | .dead => True
structure WOk [Tb] (W : Wd) : Prop where
  len : W.μ.length = W.S.length
  inj : ∀ (i j : Nat) (a : Addr) (c d : Cell), W.μ[i]? = some a → W.μ[j]? = some a → W.S[i]? = some c → W.S[j]? = some d → c ≠ .dead → d ≠ .dead → i = j
  cell : ∀ (n : Nat) (a : Addr) (c : Cell), W.μ[n]? = some a → W.S[n]? = some c → CellOk P w K W a c
  hid : ∀ a ∈ W.hid, W.H a ≠ none
  apart : ∀ (n : Nat) (a : Addr) (c : Cell), W.μ[n]? = some a → W.S[n]? = some c → c ≠ .dead → a ∉ W.hid
  tab : TabOk W
/-- what stood stands -/
def Ext (W W' : Wd) : Prop := ∀ d v, Rp K W d v → Rp K W' d v
/-- from a world to one with the store S' -/
structure Step [Tb] (W : Wd) (S' : Store) (W' : Wd) : Prop where
  ext : Ext K W W'
  ok : WOk P w K W'
  st : W'.S = S'
  hid : W'.hid = W.hid
  keep : ∀ a ∈ W.hid, W'.H a = W.H a
end

section
variable {P : Program} {w : World} {K : PySem.W.Frag} {W W' W'' : Wd}
theorem Ext.refl : Ext K W W := fun _ _ h => h
theorem Ext.trans (a : Ext K W W') (b : Ext K W' W'') : Ext K W W'' := fun d v h => b d v (a d v h)
theorem Ext.rps (e : Ext K W W') : ∀ {ds : List D} {vs : List V}, Rps K W ds vs → Rps K W' ds vs
  | [], _, h => h
  | d :: ds, _, h => by
    obtain ⟨v, r, rfl, h1, h2⟩ := h
    exact ⟨v, r, rfl, e d v h1, e.rps h2⟩
theorem Ext.rfs (e : Ext K W W') : ∀ {ds : List (Str × D)} {vs : List (Str × V)}, Rfs K W ds vs → Rfs K W' ds vs
  | [], _, h => h
  | (f, d) :: ds, _, h => by
    obtain ⟨v, r, rfl, h1, h2⟩ := h
    exact ⟨v, r, rfl, e d v h1, e.rfs h2⟩
theorem Ext.rkK (e : Ext K W W') : ∀ {ds : List (D × D)} {vs : List (Key × V)}, RkK K W ds vs → RkK K W' ds vs
  | [], _, h => h
  | (k, d) :: ds, _, h => by
    obtain ⟨key, v, r, rfl, h0, h1, h2⟩ := h
    exact ⟨key, v, r, rfl, h0, e d v h1, e.rkK h2⟩
theorem Ext.rkN (e : Ext K W W') : ∀ {ds : List (D × D)} {vs : List (NestedKey × Addr × V)}, RkN K W ds vs → RkN K W' ds vs
  | [], _, h => h
  | (k, d) :: ds, _, h => by
    obtain ⟨n, b, v, r, rfl, h0, hd, ht, h3, h1, h2⟩ := h
    exact ⟨n, b, v, r, rfl, h0, hd, ht, e _ _ h3, e d v h1, e.rkN h2⟩
theorem Ext.dcOb (e : Ext K W W') {a : Addr} {kvs : List (D × D)} {o : HO} (h : DcOb P w K W a kvs o) : DcOb P w K W' a kvs o := by
  obtain ⟨h0, h⟩ := h
  rcases h with ⟨ks, e1, h⟩ | ⟨hn, ks, e1, h⟩
  · exact ⟨h0, .inl ⟨ks, e1, e.rkK h⟩⟩
  · exact ⟨h0, .inr ⟨hn, ks, e1, e.rkN h⟩⟩
theorem Ext.rσ (e : Ext K W W') {ρ : EnvD} {σ : St} (h : Rσ K W ρ σ) : Rσ K W' ρ σ := ⟨h.1, fun i d hi => by
  obtain ⟨v, h1, h2⟩ := h.2 i d hi
  exact ⟨v, h1, e d v h2⟩⟩
theorem CellOk.ext (e : Ext K W W') {a : Addr} (ha : W'.H a = W.H a) {c : Cell} (h : CellOk P w K W a c) : CellOk P w K W' a c := by
  cases c with
  | lst xs => obtain ⟨vs, h1, h2⟩ := h; exact ⟨vs, ha.trans h1, e.rps h2⟩
  | dct kvs => obtain ⟨o, h1, h2⟩ := h; exact ⟨o, ha.trans h1, e.dcOb h2⟩
  | lck kvs => obtain ⟨ob, o, h1, h2⟩ := h; exact ⟨ob, o, ha.trans h1, e.dcOb h2⟩
  | ins C fs => obtain ⟨dx, vs, h1, h2⟩ := h; exact ⟨dx, vs, ha.trans h1, e.rfs h2⟩
  | dead => trivial
theorem CellOk.some {a : Addr} {c : Cell} (h : CellOk P w K W a c) (hc : c ≠ .dead) : W.H a ≠ none := by
  cases c with
  | lst xs => obtain ⟨vs, h1, h2⟩ := h; rw [h1]; exact fun z => nomatch z
  | dct kvs => obtain ⟨o, h1, h2⟩ := h; rw [h1]; exact fun z => nomatch z
  | lck kvs => obtain ⟨ob, o, h1, h2⟩ := h; rw [h1]; exact fun z => nomatch z
  | ins C fs => obtain ⟨dx, vs, h1, h2⟩ := h; rw [h1]; exact fun z => nomatch z
  | dead => exact absurd rfl hc
theorem obN_plain {a : Addr} {ks : List (NestedKey × Addr × V)} : plainO (ObN P w a ks) := by
  refine ⟨fun ps z => (by unfold ObN at z; cases z), fun c q z => ?_⟩
  unfold ObN LamX.CodeO at z
  have z := HO.ext.inj z
  let ob : Obj := { cls := .none, data := .fields #[.none, .str q 0] }
  let hp : Heap := { objs := Array.replicate (c + 1) ob }
  have hg : ∀ b, hp.get? b = if b < c + 1 then some ob else none := fun b => by
    show (match (Array.replicate (c + 1) ob)[b]? with | some ⟨_, _, .freed, _⟩ => none | o => o) = _
    rw [Array.getElem?_replicate]
    by_cases hb : b < c + 1
    · rw [if_pos hb]
    · rw [if_neg hb]
  have h1 := iff_of_eq (congrFun z hp)
  have h2 : (∃ (oc : Obj) (vs : Array Value) (t : Tok), hp.get? c = some oc ∧ oc.data = .fields vs ∧ vs[1]? = some (.str q t)) := ⟨ob, _, 0, by rw [hg, if_pos (Nat.lt_succ_self c)], rfl, rfl⟩
  have h1' := h1.mpr h2
  obtain ⟨_, xs, _, o, es, ep, e1, _, e2, _⟩ := h1'
  rw [hg] at e1
  split at e1
  · cases e1; cases e2
  · cases e1
theorem CellOk.plain {a : Addr} {c : Cell} (h : CellOk P w K W a c) (hc : c ≠ .dead) : ∃ o, W.H a = Option.some o ∧ plainO o := by
  have nt : ∀ {o : HO}, (∀ ps, o ≠ .tbl ps) → (∀ φ, o ≠ .ext φ) → plainO o := fun {o} h1 h2 => ⟨h1, fun c q z => h2 _ z⟩
  cases c with
  | lst xs => obtain ⟨vs, h1, h2⟩ := h; exact ⟨_, h1, nt (fun _ z => nomatch z) fun _ z => nomatch z⟩
  | dct kvs =>
    obtain ⟨o, h1, ⟨_, ⟨ks, rfl, _⟩ | ⟨_, ks, rfl, _⟩⟩⟩ := h
    · exact ⟨_, h1, nt (fun _ z => nomatch z) fun _ z => nomatch z⟩
    · exact ⟨_, h1, obN_plain⟩
  | lck kvs => obtain ⟨ob, o, h1, h2⟩ := h; exact ⟨_, h1, nt (fun _ z => nomatch z) fun _ z => nomatch z⟩
  | ins C fs => obtain ⟨dx, vs, h1, h2⟩ := h; exact ⟨_, h1, nt (fun _ z => nomatch z) fun _ z => nomatch z⟩
  | dead => exact absurd rfl hc
variable [Tb]
theorem Step.refl (ok : WOk P w K W) : Step P w K W W.S W := ⟨Ext.refl, ok, rfl, rfl, fun _ _ => rfl⟩
theorem Step.trans {S S' : Store} (a : Step P w K W S W') (b : Step P w K W' S' W'') : Step P w K W S' W'' :=
  ⟨a.ext.trans b.ext, b.ok, b.st, b.hid.trans a.hid, fun x hx => (b.keep x (by rw [a.hid]; exact hx)).trans (a.keep x hx)⟩

theorem Rps.length : ∀ {ds : List D} {vs : List V}, Rps K W ds vs → ds.length = vs.length
  | [], _, h => by cases h; rfl
  | d :: ds, _, h => by obtain ⟨v, r, rfl, _, h2⟩ := h; simp [Rps.length h2]
theorem Rps.get : ∀ {ds : List D} {vs : List V} {i : Nat} {d : D}, Rps K W ds vs → ds[i]? = some d → ∃ v, vs[i]? = some v ∧ Rp K W d v
  | [], _, _, _, h, e => by simp at e
  | x :: ds, _, i, d, h, e => by
    obtain ⟨v, r, rfl, h1, h2⟩ := h
    cases i with
    | zero => simp at e; subst e; exact ⟨v, rfl, h1⟩
    | succ i => simpa using Rps.get h2 (by simpa using e)
theorem Rps.append : ∀ {ds es : List D} {vs us : List V}, Rps K W ds vs → Rps K W es us → Rps K W (ds ++ es) (vs ++ us)
  | [], _, _, _, h, h' => by cases h; exact h'
  | d :: ds, _, _, _, h, h' => by
    obtain ⟨v, r, rfl, h1, h2⟩ := h
    exact ⟨v, r ++ _, rfl, h1, Rps.append h2 h'⟩
theorem Rps.one {d : D} {v : V} (h : Rp K W d v) : Rps K W [d] [v] := ⟨v, [], rfl, h, rfl⟩
theorem Rps.take : ∀ {ds : List D} {vs : List V} (n : Nat), Rps K W ds vs → Rps K W (ds.take n) (vs.take n)
  | [], _, n, h => by cases h; simp [Rps]
  | d :: ds, _, 0, h => by simp [Rps]
  | d :: ds, _, n + 1, h => by
    obtain ⟨v, r, rfl, h1, h2⟩ := h
    exact ⟨v, r.take n, rfl, h1, Rps.take n h2⟩
theorem Rps.drop : ∀ {ds : List D} {vs : List V} (n : Nat), Rps K W ds vs → Rps K W (ds.drop n) (vs.drop n)
  | [], _, n, h => by cases h; simp [Rps]
  | d :: ds, _, 0, h => h
  | d :: ds, _, n + 1, h => by
    obtain ⟨v, r, rfl, h1, h2⟩ := h
    exact Rps.drop n h2
theorem Rps.reverse : ∀ {ds : List D} {vs : List V}, Rps K W ds vs → Rps K W ds.reverse vs.reverse
  | [], _, h => by cases h; simp [Rps]
  | d :: ds, _, h => by
    obtain ⟨v, r, rfl, h1, h2⟩ := h
    rw [List.reverse_cons, List.reverse_cons]
    exact (Rps.reverse h2).append (Rps.one h1)
theorem Rps.set {d : D} {v : V} (hv : Rp K W d v) : ∀ {ds : List D} {vs : List V} (i : Nat), Rps K W ds vs → Rps K W (ds.set i d) (vs.set i v)
  | [], _, i, h => by cases h; simp [Rps]
  | x :: ds, _, 0, h => by
    obtain ⟨u, r, rfl, h1, h2⟩ := h
    exact ⟨v, r, rfl, hv, h2⟩
  | x :: ds, _, i + 1, h => by
    obtain ⟨u, r, rfl, h1, h2⟩ := h
    exact ⟨u, r.set i v, rfl, h1, Rps.set hv i h2⟩
theorem Rps.ints : ∀ (ns : List Int), Rps K W (ns.map D.int) (ns.map V.int)
  | [] => rfl
  | n :: ns => ⟨_, _, rfl, rfl, Rps.ints ns⟩
theorem Rps.strs : ∀ (ns : List Str), Rps K W (ns.map D.str) (ns.map V.str)
  | [] => rfl
  | n :: ns => ⟨_, _, rfl, rfl, Rps.strs ns⟩
theorem Rps.ints_inv : ∀ (ns : List Int) (vs : List V), Rps K W (ns.map D.int) vs → vs = ns.map V.int
  | [], _, h => h
  | n :: ns, _, h => by
    obtain ⟨v, r, rfl, h1, h2⟩ := h
    have h1 : v = V.int n := h1
    rw [h1, Rps.ints_inv ns r h2]; rfl
theorem Rps.strs_inv : ∀ (ns : List Str) (vs : List V), Rps K W (ns.map D.str) vs → vs = ns.map V.str
  | [], _, h => h
  | n :: ns, _, h => by
    obtain ⟨v, r, rfl, h1, h2⟩ := h
    have h1 : v = V.str n := h1
    rw [h1, Rps.strs_inv ns r h2]; rfl

theorem rd_upd {H : Hp} {p a : Addr} {o u : HO} (hp : H p = none) (h : Rd H a u) : Rd (upd H p o) a u := by
  rcases h with h | ⟨ob, h⟩
  · exact .inl (by rw [upd_ne (ne_of_none h hp)]; exact h)
  · exact .inr ⟨ob, by rw [upd_ne (ne_of_none h hp)]; exact h⟩
theorem sqT_upd {H : Hp} {p a : Addr} {o : HO} {xs : List V} (hp : H p = none) (h : SqT K H a xs) : SqT K (upd H p o) a xs := by
  rcases h with h | h
  · exact .inl (rd_upd hp h)
  · exact .inr h
theorem sqL_upd {H : Hp} {p a : Addr} {o : HO} {xs : List V} (hp : H p = none) (h : SqL K H a xs) : SqL K (upd H p o) a xs := by
  rcases h with h | h
  · exact .inl (rd_upd hp h)
  · exact .inr h

/-- what is enough that all stands -/
theorem Ext.of (hT : ∀ a xs, SqT K W.H a xs → SqT K W'.H a xs) (hL : ∀ a xs, W.H a = some (.lst xs) → Fz W a → W'.H a = some (.lst xs) ∧ Fz W' a) (hf : ∀ a o xs, W.H a = some (.frz o (.lst xs)) → W'.H a = some (.frz o (.lst xs))) (hμ : ∀ (n : Nat) a, W.μ[n]? = some a → W'.μ[n]? = some a) : Ext K W W' := by
  have go : (∀ d v, Rp K W d v → Rp K W' d v) ∧ ∀ ds vs, Rps K W ds vs → Rps K W' ds vs := by
    refine ⟨fun d => ?_, fun ds => ?_⟩
    · refine D.rec (motive_1 := fun d => ∀ v, Rp K W d v → Rp K W' d v) (motive_2 := fun ds => ∀ vs, Rps K W ds vs → Rps K W' ds vs) ?_ ?_ ?_ ?_ ?_ ?_ ?_ ?_ ?_ ?_ ?_ d
      · exact fun v h => h
      · exact fun b v h => h
      · exact fun b v h => h
      · exact fun b v h => h
      · rintro xs ih v ⟨a, vs, e, h1, h2⟩
        exact ⟨a, vs, e, hT a vs h1, ih vs h2⟩
      · rintro xs ih v ⟨a, vs, e, h1, h2, h3⟩
        exact ⟨a, vs, e, (hL a vs h1 h2).1, (hL a vs h1 h2).2, ih vs h3⟩
      · rintro n v ⟨a, e, h⟩
        exact ⟨a, e, hμ n a h⟩
      · exact fun b v h => h
      · rintro ns v ⟨a, e, h⟩
        refine ⟨a, e, ?_⟩
        rcases h with (⟨o, h⟩ | h) | h
        · exact .inl (.inl ⟨o, hf a o _ h⟩)
        · exact .inl (.inr h)
        · exact .inr (hL a _ h.1 h.2)
      · exact fun vs h => h
      · rintro d ds ih1 ih2 vs ⟨v, r, e, h1, h2⟩
        exact ⟨v, r, e, ih1 v h1, ih2 r h2⟩
    · refine D.rec_1 (motive_1 := fun d => ∀ v, Rp K W d v → Rp K W' d v) (motive_2 := fun ds => ∀ vs, Rps K W ds vs → Rps K W' ds vs) ?_ ?_ ?_ ?_ ?_ ?_ ?_ ?_ ?_ ?_ ?_ ds
      · exact fun v h => h
      · exact fun b v h => h
      · exact fun b v h => h
      · exact fun b v h => h
      · rintro xs ih v ⟨a, vs, e, h1, h2⟩
        exact ⟨a, vs, e, hT a vs h1, ih vs h2⟩
      · rintro xs ih v ⟨a, vs, e, h1, h2, h3⟩
        exact ⟨a, vs, e, (hL a vs h1 h2).1, (hL a vs h1 h2).2, ih vs h3⟩
      · rintro n v ⟨a, e, h⟩
        exact ⟨a, e, hμ n a h⟩
      · exact fun b v h => h
      · rintro ns v ⟨a, e, h⟩
        refine ⟨a, e, ?_⟩
        rcases h with (⟨o, h⟩ | h) | h
        · exact .inl (.inl ⟨o, hf a o _ h⟩)
        · exact .inl (.inr h)
        · exact .inr (hL a _ h.1 h.2)
      · exact fun vs h => h
      · rintro d ds ih1 ih2 vs ⟨v, r, e, h1, h2⟩
        exact ⟨v, r, e, ih1 v h1, ih2 r h2⟩
  exact go.1
/-- a new object that no place holds -/
theorem Step.new (ok : WOk P w K W) {p : Addr} (hp : W.H p = none) (o : HO) : Step P w K W W.S { W with H := upd W.H p o } := by
  have e : Ext K W { W with H := upd W.H p o } := Ext.of (fun a xs h => sqT_upd hp h) (fun a xs h f => ⟨(upd_ne (ne_of_none h hp)).trans h, f⟩) (fun a o xs h => (upd_ne (ne_of_none h hp)).trans h) fun n a h => h
  have keep : ∀ a, W.H a ≠ none → upd W.H p o a = W.H a := fun a ha => upd_ne fun z => by rw [z] at ha; exact ha hp
  refine ⟨e, ⟨ok.len, ok.inj, fun n a c h1 h2 => ?_, fun a ha => ?_, ok.apart, ok.tab.stay (fun b o h => (upd_ne (ne_of_none h hp)).trans h) fun a ha => .inl ha⟩, rfl, rfl, fun a ha => keep a (ok.hid a ha)⟩
  · have q := ok.cell n a c h1 h2
    cases c with
    | dead => trivial
    | _ => exact q.ext e (keep a (q.some fun z => nomatch z))
  · show upd W.H p o a ≠ none
    rw [keep a (ok.hid a ha)]; exact ok.hid a ha
theorem rd_ne {H : Hp} {a : Addr} {u : HO} (h : Rd H a u) : H a ≠ none := by
  rcases h with h | ⟨ob, h⟩ <;> rw [h] <;> exact fun z => nomatch z
theorem snoc_get {α : Type} {l : List α} {x y : α} {n : Nat} (h : (l ++ [x])[n]? = some y) : (n < l.length ∧ l[n]? = some y) ∨ (n = l.length ∧ y = x) := by
  by_cases hn : n < l.length
  · rw [List.getElem?_append_left hn] at h; exact .inl ⟨hn, h⟩
  · rw [List.getElem?_append_right (by omega)] at h
    have : n - l.length = 0 := by
      cases q : n - l.length with
      | zero => rfl
      | succ m => rw [q] at h; simp at h
    rw [this] at h
    simp at h
    exact .inr ⟨by omega, h.symm⟩
/-- a new object that is a new place -/
theorem Step.alloc (ok : WOk P w K W) {p : Addr} (hp : W.H p = none) (o : HO) (c : Cell)
    (hc : Ext K W { W with H := upd W.H p o, μ := W.μ ++ [p], S := W.S ++ [c] } → CellOk P w K { W with H := upd W.H p o, μ := W.μ ++ [p], S := W.S ++ [c] } p c) :
    Step P w K W (W.S ++ [c]) { W with H := upd W.H p o, μ := W.μ ++ [p], S := W.S ++ [c] } := by
  have keep : ∀ a, W.H a ≠ none → upd W.H p o a = W.H a := fun a ha => upd_ne fun z => by rw [z] at ha; exact ha hp
  have nep : ∀ a, W.H a ≠ none → a ≠ p := fun a ha z => by rw [z] at ha; exact ha hp
  have both : ∀ (n : Nat) a c', (W.μ ++ [p])[n]? = some a → (W.S ++ [c])[n]? = some c' → (W.μ[n]? = some a ∧ W.S[n]? = some c') ∨ (n = W.μ.length ∧ a = p ∧ c' = c) := fun n a c' h1 h2 => by
    rcases snoc_get h1 with ⟨hn, h1⟩ | ⟨hn, e1⟩
    · rcases snoc_get h2 with ⟨_, h2⟩ | ⟨hm, _⟩
      · exact .inl ⟨h1, h2⟩
      · exact absurd hn (by rw [hm, ok.len]; omega)
    · rcases snoc_get h2 with ⟨hm, h2⟩ | ⟨_, e2⟩
      · exact absurd hm (by rw [hn, ok.len]; omega)
      · exact .inr ⟨hn, e1, e2⟩
  have e : Ext K W { W with H := upd W.H p o, μ := W.μ ++ [p], S := W.S ++ [c] } := Ext.of (fun a xs h => sqT_upd hp h) (fun a xs h f => ⟨(upd_ne (ne_of_none h hp)).trans h, f.1, fun n c' h1 h2 => by
      rcases both n a c' h1 h2 with ⟨h1, h2⟩ | ⟨_, e1, _⟩
      · exact f.2 n c' h1 h2
      · exact absurd e1 (ne_of_none h hp)⟩) (fun a o xs h => (upd_ne (ne_of_none h hp)).trans h) fun n a h => by
      show (W.μ ++ [p])[n]? = some a
      rw [List.getElem?_append_left (by exact (List.getElem?_eq_some_iff.mp h).1)]; exact h
  refine ⟨e, ⟨?_, fun i j a c' d h1 h2 h3 h4 n1 n2 => ?_, fun n a c' h1 h2 => ?_, fun a ha => ?_, fun n a c' h1 h2 h3 => ?_, ok.tab.stay (fun b o h => (upd_ne (ne_of_none h hp)).trans h) fun a ha => .inl ha⟩, rfl, rfl, fun a ha => keep a (ok.hid a ha)⟩
  · show (W.μ ++ [p]).length = (W.S ++ [c]).length
    rw [List.length_append, List.length_append, ok.len]; rfl
  · rcases both i a c' h1 h3 with ⟨g1, g2⟩ | ⟨g1, g2, _⟩
    · rcases both j a d h2 h4 with ⟨k1, k2⟩ | ⟨k1, k2, _⟩
      · exact ok.inj i j a c' d g1 k1 g2 k2 n1 n2
      · exact absurd k2 (nep a ((ok.cell i a c' g1 g2).some n1))
    · rcases both j a d h2 h4 with ⟨k1, k2⟩ | ⟨k1, k2, _⟩
      · exact absurd g2 (nep a ((ok.cell j a d k1 k2).some n2))
      · omega
  · rcases both n a c' h1 h2 with ⟨g1, g2⟩ | ⟨_, rfl, rfl⟩
    · have q := ok.cell n a c' g1 g2
      cases c' with
      | dead => trivial
      | _ => exact q.ext e (keep a (q.some fun z => nomatch z))
    · exact hc e
  · show upd W.H p o a ≠ none
    rw [keep a (ok.hid a ha)]; exact ok.hid a ha
  · rcases both n a c' h1 h2 with ⟨g1, g2⟩ | ⟨_, e1, _⟩
    · exact ok.apart n a c' g1 g2 h3
    · exact fun z => nep a (ok.hid a z) e1
/-- a place is written -/
theorem Step.write (ok : WOk P w K W) {n : Nat} {a : Addr} {c c' : Cell} (hn : W.μ[n]? = some a) (hS : W.S[n]? = some c) (live : c ≠ .dead) (live' : c' ≠ .dead) (o : HO) (nt : ∀ xs, ¬ Rd W.H a (.tup xs)) (nf : ∀ o xs, W.H a ≠ some (.frz o (.lst xs)))
    (hc : Ext K W { W with H := upd W.H a o, S := W.S.set n c' } → CellOk P w K { W with H := upd W.H a o, S := W.S.set n c' } a c') :
    Step P w K W (W.S.set n c') { W with H := upd W.H a o, S := W.S.set n c' } := by
  have hlt : n < W.S.length := (List.getElem?_eq_some_iff.mp hS).1
  have both : ∀ (m : Nat) d, (W.S.set n c')[m]? = some d → (m = n ∧ d = c') ∨ (m ≠ n ∧ W.S[m]? = some d) := fun m d h => by
    by_cases e : m = n
    · subst e
      rw [List.getElem?_set_self hlt] at h
      exact .inl ⟨rfl, (Option.some.inj h).symm⟩
    · rw [List.getElem?_set_ne (Ne.symm e)] at h
      exact .inr ⟨e, h⟩
  have ne' : ∀ (m : Nat) b d, m ≠ n → W.μ[m]? = some b → W.S[m]? = some d → d ≠ .dead → b ≠ a := fun m b d hm h1 h2 h3 z => by
    subst z; exact hm (ok.inj m n b d c h1 hn h2 hS h3 live)
  have e : Ext K W { W with H := upd W.H a o, S := W.S.set n c' } := by
    refine Ext.of (fun b xs h => ?_) (fun b xs h f => ?_) (fun b o xs h => (upd_ne (fun z => by subst z; exact nf _ _ h)).trans h) fun m b h => h
    · rcases h with h | h
      · left
        have hb : b ≠ a := fun z => by subst z; exact nt xs h
        rcases h with h | ⟨ob, h⟩
        · exact .inl ((upd_ne hb).trans h)
        · exact .inr ⟨ob, (upd_ne hb).trans h⟩
      · exact .inr h
    · have hb : b ≠ a := fun z => by subst z; exact live (f.2 n c hn hS)
      refine ⟨(upd_ne hb).trans h, f.1, fun m d h1 h2 => ?_⟩
      · rcases both m d h2 with ⟨rfl, _⟩ | ⟨_, h2⟩
        · exact absurd (Option.some.inj (h1.symm.trans hn)) hb
        · exact f.2 m d h1 h2
  refine ⟨e, ⟨?_, fun i j b d d' h1 h2 h3 h4 n1 n2 => ?_, fun m b d h1 h2 => ?_, fun b hb => ?_, fun m b d h1 h2 h3 => ?_, ?_⟩, rfl, rfl, fun b hb => upd_ne fun z => ?_⟩
  · show W.μ.length = (W.S.set n c').length
    rw [List.length_set]; exact ok.len
  · rcases both i d h3 with ⟨e1, e2⟩ | ⟨e1, g1⟩
    · rcases both j d' h4 with ⟨k1, k2⟩ | ⟨k1, g2⟩
      · omega
      · exact ok.inj i j b c d' h1 h2 (by rw [e1]; exact hS) g2 live n2
    · rcases both j d' h4 with ⟨k1, k2⟩ | ⟨k1, g2⟩
      · exact ok.inj i j b d c h1 h2 g1 (by rw [k1]; exact hS) n1 live
      · exact ok.inj i j b d d' h1 h2 g1 g2 n1 n2
  · rcases both m d h2 with ⟨rfl, rfl⟩ | ⟨g1, g2⟩
    · obtain rfl : b = a := Option.some.inj (h1.symm.trans hn)
      exact hc e
    · have q := ok.cell m b d h1 g2
      by_cases hd : d = .dead
      · subst hd; trivial
      · exact q.ext e (upd_ne (ne' m b d g1 h1 g2 hd))
  · show upd W.H a o b ≠ none
    rw [upd_ne fun z => by subst z; exact ok.apart n b c hn hS live hb]; exact ok.hid b hb
  · rcases both m d h2 with ⟨rfl, rfl⟩ | ⟨g1, g2⟩
    · obtain rfl : b = a := Option.some.inj (h1.symm.trans hn)
      exact ok.apart m b c h1 hS live
    · exact ok.apart m b d h1 g2 h3
  · obtain ⟨u, hu, pu⟩ := (ok.cell n a c hn hS).plain live
    obtain ⟨o', ho, po⟩ := (hc e).plain live'
    have ho : upd W.H a o a = some o' := ho
    rw [upd_same] at ho
    cases ho
    exact ok.tab.put hu pu rfl po fun b hb => .inl hb
  · subst z; exact ok.apart n b c hn hS live hb
/-- an object is hidden, unhidden -/
theorem WOk.hide (ok : WOk P w K W) {p : Addr} (hp : W.H p = none) (o : HO) (po : plainO o := by exact ⟨fun _ z => (by cases z), fun _ _ z => (by unfold LamX.CodeO at z; cases z)⟩) : WOk P w K { W with H := upd W.H p o, hid := p :: W.hid } ∧ Ext K W { W with H := upd W.H p o, hid := p :: W.hid } := by
  have keep : ∀ a, W.H a ≠ none → upd W.H p o a = W.H a := fun a ha => upd_ne fun z => by rw [z] at ha; exact ha hp
  have nep : ∀ a, W.H a ≠ none → a ≠ p := fun a ha z => by rw [z] at ha; exact ha hp
  have e : Ext K W { W with H := upd W.H p o, hid := p :: W.hid } := Ext.of (fun a xs h => sqT_upd hp h) (fun a xs h f => ⟨(upd_ne (ne_of_none h hp)).trans h, fun z => by
    rcases List.mem_cons.mp z with z | z
    · exact ne_of_none h hp z
    · exact f.1 z, f.2⟩) (fun a o xs h => (upd_ne (ne_of_none h hp)).trans h) fun n a h => h
  refine ⟨⟨ok.len, ok.inj, fun n a c h1 h2 => ?_, fun a ha => ?_, fun n a c h1 h2 h3 z => ?_, ok.tab.stay (fun b o h => (upd_ne (ne_of_none h hp)).trans h) fun a ha => ?_⟩, e⟩
  rotate_right
  · rcases List.mem_cons.mp ha with rfl | ha
    · exact .inr ⟨o, upd_same, po⟩
    · exact .inl ha
  · have q := ok.cell n a c h1 h2
    cases c with
    | dead => trivial
    | _ => exact q.ext e (keep a (q.some fun z => nomatch z))
  · show upd W.H p o a ≠ none
    rcases List.mem_cons.mp ha with rfl | ha
    · rw [upd_same]; exact fun z => nomatch z
    · rw [keep a (ok.hid a ha)]; exact ok.hid a ha
  · rcases List.mem_cons.mp z with z | z
    · exact nep a ((ok.cell n a c h1 h2).some h3) z
    · exact ok.apart n a c h1 h2 h3 z
/-- the hidden object is changed -/
theorem WOk.hidden (ok : WOk P w K W) {p : Addr} (hp : p ∈ W.hid) (o : HO) (nt : ∀ xs, ¬ Rd W.H p (.tup xs)) (nf : ∀ o xs, W.H p ≠ some (.frz o (.lst xs))) (po : plainO o := by exact ⟨fun _ z => (by cases z), fun _ _ z => (by unfold LamX.CodeO at z; cases z)⟩) : WOk P w K { W with H := upd W.H p o } ∧ Ext K W { W with H := upd W.H p o } := by
  have rd : ∀ b u, b ≠ p → Rd W.H b u → Rd (upd W.H p o) b u := fun b u hb h => by
    rcases h with h | ⟨ob, h⟩
    · exact .inl ((upd_ne hb).trans h)
    · exact .inr ⟨ob, (upd_ne hb).trans h⟩
  have e : Ext K W { W with H := upd W.H p o } := by
    refine Ext.of (fun b xs h => ?_) (fun b xs h f => ⟨(upd_ne (fun z => by subst z; exact f.1 hp)).trans h, f⟩) (fun b o xs h => (upd_ne (fun z => by subst z; exact nf _ _ h)).trans h) fun m b h => h
    rcases h with h | h
    · exact .inl (rd b _ (fun z => by subst z; exact nt xs h) h)
    · exact .inr h
  refine ⟨⟨ok.len, ok.inj, fun n a c h1 h2 => ?_, fun a ha => ?_, ok.apart, ?_⟩, e⟩
  rotate_right
  · obtain ⟨u, hu, pu⟩ := ok.tab.pl p hp
    exact ok.tab.put hu pu rfl po fun b hb => .inl hb
  · have q := ok.cell n a c h1 h2
    by_cases hd : c = .dead
    · subst hd; trivial
    · exact q.ext e (upd_ne fun z => by subst z; exact ok.apart n a c h1 h2 hd hp)
  · show upd W.H p o a ≠ none
    by_cases e1 : a = p
    · subst e1; rw [upd_same]; exact fun z => nomatch z
    · rw [upd_ne e1]; exact ok.hid a ha
theorem WOk.unhide (ok : WOk P w K W) {p : Addr} {l : List Addr} (hh : W.hid = p :: l) : WOk P w K { W with hid := l } ∧ Ext K W { W with hid := l } := by
  have e : Ext K W { W with hid := l } := Ext.of (fun a xs h => h) (fun a xs h f => ⟨h, fun z => f.1 (by rw [hh]; exact List.mem_cons_of_mem _ z), f.2⟩) (fun a o xs h => h) fun n a h => h
  exact ⟨⟨ok.len, ok.inj, fun n a c h1 h2 => (ok.cell n a c h1 h2).ext e rfl, fun a ha => ok.hid a (by rw [hh]; exact List.mem_cons_of_mem _ ha), fun n a c h1 h2 h3 z => ok.apart n a c h1 h2 h3 (by rw [hh]; exact List.mem_cons_of_mem _ z), ok.tab.stay (fun b o h => h) fun a ha => .inl (by rw [hh]; exact List.mem_cons_of_mem _ ha)⟩, e⟩
/-- .. and becomes a new place -/
theorem WOk.unhideAt (ok : WOk P w K W) {p : Addr} {l : List Addr} (hh : W.hid = p :: l) (hl : p ∉ l) (c : Cell) (live : c ≠ .dead)
    (hc : Ext K W { W with μ := W.μ ++ [p], S := W.S ++ [c], hid := l } → CellOk P w K { W with μ := W.μ ++ [p], S := W.S ++ [c], hid := l } p c) :
    WOk P w K { W with μ := W.μ ++ [p], S := W.S ++ [c], hid := l } ∧ Ext K W { W with μ := W.μ ++ [p], S := W.S ++ [c], hid := l } := by
  have both : ∀ (n : Nat) a c', (W.μ ++ [p])[n]? = some a → (W.S ++ [c])[n]? = some c' → (W.μ[n]? = some a ∧ W.S[n]? = some c') ∨ (n = W.μ.length ∧ a = p ∧ c' = c) := fun n a c' h1 h2 => by
    rcases snoc_get h1 with ⟨hn, h1⟩ | ⟨hn, e1⟩
    · rcases snoc_get h2 with ⟨_, h2⟩ | ⟨hm, _⟩
      · exact .inl ⟨h1, h2⟩
      · exact absurd hn (by rw [hm, ok.len]; omega)
    · rcases snoc_get h2 with ⟨hm, h2⟩ | ⟨_, e2⟩
      · exact absurd hm (by rw [hn, ok.len]; omega)
      · exact .inr ⟨hn, e1, e2⟩
  have hp : p ∈ W.hid := by rw [hh]; exact List.mem_cons_self
  have e : Ext K W { W with μ := W.μ ++ [p], S := W.S ++ [c], hid := l } := Ext.of (fun a xs h => h) (fun a xs h f => ⟨h, fun z => f.1 (by rw [hh]; exact List.mem_cons_of_mem _ z), fun n c' h1 h2 => by
      rcases both n a c' h1 h2 with ⟨h1, h2⟩ | ⟨_, e1, _⟩
      · exact f.2 n c' h1 h2
      · subst e1; exact absurd hp f.1⟩) (fun a o xs h => h) fun n a h => by
      show (W.μ ++ [p])[n]? = some a
      rw [List.getElem?_append_left (by exact (List.getElem?_eq_some_iff.mp h).1)]; exact h
  refine ⟨⟨?_, fun i j a c' d h1 h2 h3 h4 n1 n2 => ?_, fun n a c' h1 h2 => ?_, fun a ha => ok.hid a (by rw [hh]; exact List.mem_cons_of_mem _ ha), fun n a c' h1 h2 h3 => ?_, ok.tab.stay (fun b o h => h) fun a ha => .inl (by rw [hh]; exact List.mem_cons_of_mem _ ha)⟩, e⟩
  · show (W.μ ++ [p]).length = (W.S ++ [c]).length
    rw [List.length_append, List.length_append, ok.len]; rfl
  · rcases both i a c' h1 h3 with ⟨g1, g2⟩ | ⟨g1, g2, _⟩
    · rcases both j a d h2 h4 with ⟨k1, k2⟩ | ⟨k1, k2, _⟩
      · exact ok.inj i j a c' d g1 k1 g2 k2 n1 n2
      · subst k2; exact absurd hp (ok.apart i a c' g1 g2 n1)
    · rcases both j a d h2 h4 with ⟨k1, k2⟩ | ⟨k1, k2, _⟩
      · subst g2; exact absurd hp (ok.apart j a d k1 k2 n2)
      · omega
  · rcases both n a c' h1 h2 with ⟨g1, g2⟩ | ⟨_, rfl, rfl⟩
    · exact (ok.cell n a c' g1 g2).ext e rfl
    · exact hc e
  · rcases both n a c' h1 h2 with ⟨g1, g2⟩ | ⟨_, e1, _⟩
    · exact fun z => ok.apart n a c' g1 g2 h3 (by rw [hh]; exact List.mem_cons_of_mem _ z)
    · subst e1; exact hl
end
end Ev
end L2

namespace L2
namespace Ev
open PyProof.Rows PySem.Spec PySem L2
variable [Tb]

abbrev M (α : Type) := Store → Option (α × Store)
abbrev ME := EnvD → M D
abbrev MT := EnvD → M Bool
abbrev MA := EnvD → M (List D)
inductive Res where
  | nx (ρ : EnvD) (S : Store) | rt (d : D) (S : Store) | bk (ρ : EnvD) (S : Store) | ct (ρ : EnvD) (S : Store)
abbrev MS := EnvD → Store → Option Res

/-- the program, its world, its written part -/
structure Md where
  P : Program
  w : World
  K : PySem.W.Frag
abbrev md (X : Cx) : Md := ⟨X.prog, X.w, X.K⟩
section
variable (m : Md)
abbrev Ok (W : Wd) : Prop := WOk m.P m.w m.K W
abbrev Stp (W : Wd) (S' : Store) (W' : Wd) : Prop := Step m.P m.w m.K W S' W'
/-- what is wanted of a value -/
def Pst (W : Wd) (S' : Store) (d : D) (Q : VK) : Prop := ∀ W' v, Stp m W S' W' → Rp m.K W' d v → Q v W'.H
def tE (f : ME) : TE := fun σ H Q => ∃ W ρ d S', W.H = H ∧ Ok m W ∧ Rσ m.K W ρ σ ∧ f ρ W.S = some (d, S') ∧ Pst m W S' d Q
def tT (f : MT) : TT := fun σ H Q => ∃ W ρ b S', W.H = H ∧ Ok m W ∧ Rσ m.K W ρ σ ∧ f ρ W.S = some (b, S') ∧ ∀ W', Stp m W S' W' → Q b W'.H
def tA (f : MA) : TA := fun σ H Q => ∃ W ρ ds S', W.H = H ∧ Ok m W ∧ Rσ m.K W ρ σ ∧ f ρ W.S = some (ds, S') ∧ ∀ W' vs, Stp m W S' W' → Rps m.K W' ds vs → Q vs W'.H
def PstS (W : Wd) (E : Ends) : Res → Prop
  | .nx ρ' S' => ∀ W' σ', Stp m W S' W' → Rσ m.K W' ρ' σ' → E.nx σ' W'.H
  | .bk ρ' S' => ∀ W' σ', Stp m W S' W' → Rσ m.K W' ρ' σ' → E.bk σ' W'.H
  | .ct ρ' S' => ∀ W' σ', Stp m W S' W' → Rσ m.K W' ρ' σ' → E.ct σ' W'.H
  | .rt d S' => Pst m W S' d E.rt
def tS (f : MS) : TS := fun E σ H => ∃ W ρ r, W.H = H ∧ Ok m W ∧ Rσ m.K W ρ σ ∧ f ρ W.S = some r ∧ PstS m W E r
/-- operations by values -/
def rOp (g : D → D → M D) : R2 := fun x y H Q => ∃ W dx dy d S', W.H = H ∧ Ok m W ∧ Rp m.K W dx x ∧ Rp m.K W dy y ∧ g dx dy W.S = some (d, S') ∧ Pst m W S' d Q
def rUn (g : D → M D) : V → Hp → VK → Prop := fun x H Q => ∃ W dx d S', W.H = H ∧ Ok m W ∧ Rp m.K W dx x ∧ g dx W.S = some (d, S') ∧ Pst m W S' d Q
def rFn (g : List D → M D) : List V → Hp → VK → Prop := fun xs H Q => ∃ W ds d S', W.H = H ∧ Ok m W ∧ Rps m.K W ds xs ∧ g ds W.S = some (d, S') ∧ Pst m W S' d Q
def rMt (g : D → List D → M D) : V → List V → Hp → VK → Prop := fun x xs H Q => ∃ W dx ds d S', W.H = H ∧ Ok m W ∧ Rp m.K W dx x ∧ Rps m.K W ds xs ∧ g dx ds W.S = some (d, S') ∧ Pst m W S' d Q
end
section
variable {m : Md} {W W' W'' : Wd} {S S' : Store} {d : D} {Q : VK} {v : V}
theorem Pst.step (q : Pst m W S' d Q) (st : Stp m W S W') : Pst m W' S' d Q := fun W'' v st' r => q W'' v (st.trans st') r
theorem Pst.val (q : Pst m W W.S d Q) (ok : Ok m W) (r : Rp m.K W d v) : Q v W.H := q W v (Step.refl ok) r
theorem PstS.step {E : Ends} {r : Res} (q : PstS m W E r) (st : Stp m W S W') : PstS m W' E r := by
  cases r with
  | nx ρ S1 => exact fun W'' σ' st' rr => q W'' σ' (st.trans st') rr
  | bk ρ S1 => exact fun W'' σ' st' rr => q W'' σ' (st.trans st') rr
  | ct ρ S1 => exact fun W'' σ' st' rr => q W'' σ' (st.trans st') rr
  | rt d S1 => exact Pst.step q st
/-- a new list -/
def newL (mu : Bool) (xs : List D) : M D := fun S => if xs.length ≤ sizeLine then (if mu = true then some (.ref S.length, S ++ [.lst xs]) else some (.lst xs, S)) else none
theorem newL_len {mu : Bool} {xs : List D} (h : newL mu xs S = some (d, S')) : xs.length ≤ sizeLine := by
  unfold newL at h
  split at h
  · assumption
  · cases h
theorem newL_ok {mu : Bool} {xs : List D} {vs : List V} {p : Addr} (h : newL mu xs W.S = some (d, S')) (ok : Ok m W) (r : Rps m.K W xs vs) (hp : W.H p = none) (q : Pst m W S' d Q) : Q (.ref p) (upd W.H p (.lst vs)) := by
  unfold newL at h
  split at h
  · split at h
    · obtain ⟨rfl, rfl⟩ : D.ref W.S.length = d ∧ W.S ++ [Cell.lst xs] = S' := by
        have := Option.some.inj h
        exact ⟨congrArg Prod.fst this, congrArg Prod.snd this⟩
      have st : Stp m W (W.S ++ [Cell.lst xs]) { W with H := upd W.H p (.lst vs), μ := W.μ ++ [p], S := W.S ++ [Cell.lst xs] } := Step.alloc ok hp (.lst vs) (.lst xs) fun e => ⟨vs, upd_same, e.rps r⟩
      refine q _ (.ref p) st ⟨p, rfl, ?_⟩
      show (W.μ ++ [p])[W.S.length]? = some p
      rw [← ok.len, List.getElem?_append_right (Nat.le_refl _), Nat.sub_self]; rfl
    · obtain ⟨rfl, rfl⟩ : D.lst xs = d ∧ W.S = S' := by
        have := Option.some.inj h
        exact ⟨congrArg Prod.fst this, congrArg Prod.snd this⟩
      have st : Stp m W W.S { W with H := upd W.H p (.lst vs) } := Step.new ok hp (.lst vs)
      refine q _ (.ref p) st ⟨p, vs, rfl, upd_same, ⟨fun z => ok.hid p z hp, fun n c h1 h2 => ?_⟩, st.ext.rps r⟩
      by_cases hc : c = .dead
      · exact hc
      · exact absurd hp ((ok.cell n p c h1 h2).some hc)
  · cases h
/-- a new tuple -/
theorem newT_ok {xs : List D} {vs : List V} {p : Addr} (ok : Ok m W) (r : Rps m.K W xs vs) (hp : W.H p = none) (q : Pst m W W.S (.tup xs) Q) : Q (.ref p) (upd W.H p (.tup vs)) := by
  have st : Stp m W W.S { W with H := upd W.H p (.tup vs) } := Step.new ok hp (.tup vs)
  exact q _ (.ref p) st ⟨p, vs, rfl, .inl (.inl upd_same), st.ext.rps r⟩
/-- what a value is as a list -/
def listOf (S : Store) : D → Option (List D)
  | .lst xs => some xs
  | .ref n => match S[n]? with
    | some (.lst xs) => some xs
    | _ => none
  | _ => none
theorem listOf_ok {xs : List D} (ok : Ok m W) (h : listOf W.S d = some xs) (r : Rp m.K W d v) : ∃ a vs, v = .ref a ∧ W.H a = some (.lst vs) ∧ Rps m.K W xs vs := by
  cases d with
  | lst ds =>
    obtain rfl : ds = xs := Option.some.inj h
    obtain ⟨a, vs, e, h1, _, h2⟩ := r
    exact ⟨a, vs, e, h1, h2⟩
  | ref n =>
    obtain ⟨a, rfl, h1⟩ := r
    simp only [listOf] at h
    split at h
    · rename_i ys e
      obtain rfl := Option.some.inj h
      obtain ⟨vs, h2, h3⟩ := ok.cell n a _ h1 e
      exact ⟨a, vs, rfl, h2, h3⟩
    · cases h
  | _ => simp [listOf] at h
/-- .. to be read -/
def readOf (S : Store) : D → Option (List D)
  | .scr ns => some (ns.map .int)
  | d => listOf S d
theorem readOf_ok {xs : List D} (ok : Ok m W) (h : readOf W.S d = some xs) (r : Rp m.K W d v) : ∃ a vs, v = .ref a ∧ SqL m.K W.H a vs ∧ Rps m.K W xs vs := by
  cases d with
  | scr ns =>
    obtain rfl : ns.map D.int = xs := Option.some.inj h
    obtain ⟨a, rfl, h⟩ := r
    exact ⟨a, _, rfl, h.sq, Rps.ints ns⟩
  | _ =>
    obtain ⟨a, vs, h1, h2, h3⟩ := listOf_ok (xs := xs) ok (by simpa only [readOf] using h) r
    exact ⟨a, vs, h1, .inl (.inl h2), h3⟩
/-- a place's list, to be written -/
theorem place_ok {n : Nat} {xs : List D} (ok : Ok m W) (h : W.S[n]? = some (.lst xs)) (r : Rp m.K W (.ref n) v) : ∃ a vs, v = .ref a ∧ W.μ[n]? = some a ∧ W.H a = some (.lst vs) ∧ Rps m.K W xs vs := by
  obtain ⟨a, rfl, h1⟩ := r
  obtain ⟨vs, h2, h3⟩ := ok.cell n a _ h1 h
  exact ⟨a, vs, rfl, h1, h2, h3⟩
theorem tup_ok {xs : List D} (r : Rp m.K W (.tup xs) v) : ∃ a vs, v = .ref a ∧ SqT m.K W.H a vs ∧ Rps m.K W xs vs := r
end

section
variable {X : Cx} {e a b c : Expr} {es : List Expr} {pos : Pos} {fa fb fc : ME}
def EvE (X : Cx) (e : Expr) (f : ME) : Prop := PE X e (tE (md X) f)
def EvT (X : Cx) (e : Expr) (f : MT) : Prop := PT X e (tT (md X) f)
def EvA (X : Cx) (es : List Expr) (f : MA) : Prop := PA X es (tA (md X) f)
def EvS (X : Cx) (st : Stmt) (f : MS) : Prop := PS X st (tS (md X) f)
def EvB (X : Cx) (st : List Stmt) (f : MS) : Prop := PSs X st (tS (md X) f)
theorem PE.imp {t t' : TE} (h : PE X e t) (i : ∀ σ H Q, t' σ H Q → t σ H Q) : PE X e t' := ⟨fun pins s σ H Q I q => h.run pins s σ H Q I (i σ H Q q)⟩
theorem PT.imp {t t' : TT} (h : PT X e t) (i : ∀ σ H Q, t' σ H Q → t σ H Q) : PT X e t' := ⟨fun pins s σ H Q I q => h.run pins s σ H Q I (i σ H Q q)⟩
theorem PW.imp {t t' : TT} (h : PW X e t) (i : ∀ σ H Q, t' σ H Q → t σ H Q) : PW X e t' := ⟨fun wh pins s σ H Q I q => h.run wh pins s σ H Q I (i σ H Q q)⟩
theorem PA.imp {t t' : TA} (h : PA X es t) (i : ∀ σ H Q, t' σ H Q → t σ H Q) : PA X es t' := ⟨fun pos pins s σ H Q I q => h.run pos pins s σ H Q I (i σ H Q q)⟩
theorem PS.imp {st : Stmt} {t t' : TS} (h : PS X st t) (i : ∀ E σ H, t' E σ H → t E σ H) : PS X st t' := ⟨fun pins s σ H E I q => h.run pins s σ H E I (i E σ H q)⟩
theorem PSs.imp {st : List Stmt} {t t' : TS} (h : PSs X st t) (i : ∀ E σ H, t' E σ H → t E σ H) : PSs X st t' := ⟨fun pins s σ H E I q => h.run pins s σ H E I (i E σ H q)⟩
theorem PE.mono {m : Md} {f : ME} {σ : St} {H : Hp} {Q Q' : VK} (h : tE m f σ H Q) (i : ∀ v H, Q v H → Q' v H) : tE m f σ H Q' := by
  obtain ⟨W, ρ, d, S', h1, h2, h3, h4, h5⟩ := h
  exact ⟨W, ρ, d, S', h1, h2, h3, h4, fun W' v st r => i _ _ (h5 W' v st r)⟩

/-! ### names, constants -/
def eV (i : Nat) : ME := fun ρ S => match ρ[i]? with
  | some (some d) => some (d, S)
  | _ => none
def eC (d : D) : ME := fun _ S => some (d, S)
theorem e_var (i : Nat) {x : Str} (hN : X.N[i]? = some x := by rfl) (hv : Vis X.env.scope x := by first | exact Or.inl rfl | exact Or.inr (Or.inl rfl) | exact Or.inr (Or.inr rfl)) (hd : (x == ("__debug__" : Str)) = false := by decide) (hcd : (x == ("__classdict__" : Str)) = false := by decide) :
    EvE X (.Name x pos) (eV i) := PE.imp (pe_var hN hv hd hcd) fun σ H Q => by
  rintro ⟨W, ρ, d, S', rfl, ok, hρ, he, q⟩
  unfold eV at he
  split at he
  · rename_i d' e
    cases he
    obtain ⟨v, h1, h2⟩ := hρ.2 _ _ e
    exact ⟨v, h1, q.val ok h2⟩
  · cases he
theorem e_const {d : D} {v : V} (h : PE X e (tC v)) (r : ∀ W, Rp X.K W d v) : EvE X e (eC d) := PE.imp h fun σ H Q => by
  rintro ⟨W, ρ, d', S', rfl, ok, hρ, he, q⟩
  cases he
  exact q.val ok (r W)
theorem e_int {i j} : EvE X (.Constant (.int i) j pos) (eC (.int i)) := e_const pe_int fun _ => rfl
theorem e_bl {i j} : EvE X (.Constant (.bool i) j pos) (eC (.bl i)) := e_const pe_bl fun _ => rfl
theorem e_non {j} : EvE X (.Constant .none j pos) (eC .non) := e_const pe_non fun _ => rfl
theorem e_str {i j} : EvE X (.Constant (.str i) j pos) (eC (.str i)) := e_const pe_str fun _ => rfl
/-- a function or class of the module as a value -/
theorem e_fn {x : Str} {f : Addr} (hg : Gl X x) (hm : X.mg x = some (.ref f)) (hd : (x == ("__debug__" : Str)) = false := by decide) : EvE X (.Name x pos) (eC (.adr f)) := e_const (pe_glob (v := .ref f) hg hm rfl hd) fun _ => rfl
/-- a number, a text of the module's own -/
theorem e_gint {x : Str} {i : Int} (hg : Gl X x) (hm : ∃ t, X.mg x = some (.int i t)) (hd : (x == ("__debug__" : Str)) = false := by decide) : EvE X (.Name x pos) (eC (.int i)) := by
  obtain ⟨t, hm⟩ := hm
  exact e_const (pe_glob (v := .int i) hg hm ⟨t, rfl⟩ hd) fun _ => rfl
theorem e_gstr {x : Str} {i : Str} (hg : Gl X x) (hm : ∃ t, X.mg x = some (.str i t)) (hd : (x == ("__debug__" : Str)) = false := by decide) : EvE X (.Name x pos) (eC (.str i)) := by
  obtain ⟨t, hm⟩ := hm
  exact e_const (pe_glob (v := .str i) hg hm ⟨t, rfl⟩ hd) fun _ => rfl

/-! ### operators -/
def Op2 (X : Cx) (F : Value → Value → Sem Value) (g : D → D → M D) : Prop := OpR X F (rOp (md X) g)
def Op1 (X : Cx) (F : Value → Sem Value) (g : D → M D) : Prop := UnR X F (rUn (md X) g)
theorem OpR.imp {f : Value → Value → Sem Value} {r r' : R2} (h : OpR X f r) (i : ∀ x y H Q, r' x y H Q → r x y H Q) : OpR X f r' := fun pins s σ H x y v u Q I rx ry q => h pins s σ H x y v u Q I rx ry (i x y H Q q)
theorem OpR.split {f : Value → Value → Sem Value} {r' : R2} (h : ∀ x y H Q, r' x y H Q → ∃ r, OpR X f r ∧ r x y H Q) : OpR X f r' := fun pins s σ H x y v u Q I rx ry q => by
  obtain ⟨r, h1, h2⟩ := h x y H Q q
  exact h1 pins s σ H x y v u Q I rx ry h2
def eBin (g : D → D → M D) (fa fb : ME) : ME := fun ρ S => (fa ρ S).bind fun (x, S1) => (fb ρ S1).bind fun (y, S2) => g x y S2
theorem bin_go {m : Md} {g : D → D → M D} {σ : St} {H : Hp} {Q : VK} (h : tE m (eBin g fa fb) σ H Q) : tOp (rOp m g) (tE m fa) (tE m fb) σ H Q := by
  obtain ⟨W, ρ, d, S', rfl, ok, hρ, he, q⟩ := h
  unfold eBin at he
  rw [Option.bind_eq_some_iff] at he
  obtain ⟨⟨x, S1⟩, e1, he⟩ := he
  rw [Option.bind_eq_some_iff] at he
  obtain ⟨⟨y, S2⟩, e2, he⟩ := he
  refine ⟨W, ρ, x, S1, rfl, ok, hρ, e1, fun W1 v st r => ⟨W1, ρ, y, S2, rfl, st.ok, st.ext.rσ hρ, by rw [st.st]; exact e2, fun W2 u st2 r2 => ?_⟩⟩
  exact ⟨W2, x, y, d, S', rfl, st2.ok, st2.ext _ _ r, r2, by rw [st2.st]; exact he, (q.step st).step st2⟩
theorem e_bin {op : Operator} {g : D → D → M D} (ho : Op2 X (binaryOp op) g) (ha : EvE X a fa) (hb : EvE X b fb) : EvE X (.BinOp a op b pos) (eBin g fa fb) := PE.imp (pe_op ho ha hb) fun _ _ _ h => bin_go h
theorem e_cmp {op : CmpOp} {g : D → D → M D} (ho : Op2 X (compareOp op) g) (ha : EvE X a fa) (hb : EvE X b fb) (hm : behindInMarks op b = false := by first | exact nomark _ | rfl) : EvE X (.Compare a [op] [b] pos) (eBin g fa fb) := PE.imp (pe_cmpR ho ha hb hm) fun _ _ _ h => bin_go h
def eUn (g : D → M D) (fa : ME) : ME := fun ρ S => (fa ρ S).bind fun (x, S1) => g x S1
theorem un_go {m : Md} {g : D → M D} {σ : St} {H : Hp} {Q : VK} (h : tE m (eUn g fa) σ H Q) : tUn (rUn m g) (tE m fa) σ H Q := by
  obtain ⟨W, ρ, d, S', rfl, ok, hρ, he, q⟩ := h
  unfold eUn at he
  rw [Option.bind_eq_some_iff] at he
  obtain ⟨⟨x, S1⟩, e1, he⟩ := he
  exact ⟨W, ρ, x, S1, rfl, ok, hρ, e1, fun W1 v st r => ⟨W1, x, d, S', rfl, st.ok, r, by rw [st.st]; exact he, q.step st⟩⟩
theorem e_un {op : UnaryOp} {g : D → M D} (ho : Op1 X (unaryOp op) g) (ha : EvE X a fa) : EvE X (.UnaryOp op a pos) (eUn g fa) := PE.imp (pe_un ho ha) fun _ _ _ h => un_go h
end
end Ev
end L2

namespace L2
namespace Ev
open PyProof.Rows PySem.Spec PySem L2
variable [Tb]

/-! ### data -/
mutual
/-- the datum of a value without places -/
def py0 : D → Option PyData
  | .non => some .none
  | .bl b => some (.bool b)
  | .int i => some (.int i)
  | .str x => some (.str x)
  | .tup ds => (py0s ds).map .tuple
  | .lst ds => (py0s ds).map .list
  | .ref _ => none
  | .adr _ => none
  | .scr ns => some (.list (ns.map .int))
def py0s : List D → Option (List PyData)
  | [] => some []
  | d :: ds => match py0 d, py0s ds with
    | some p, some ps => some (p :: ps)
    | _, _ => none
end
/-- .. of one that may be a place with a list -/
def py1 (S : Store) : D → Option PyData
  | .ref n => match S[n]? with
    | some (.lst xs) => (py0s xs).map .list
    | _ => none
  | d => py0 d
def py1s (S : Store) : List D → Option (List PyData)
  | [] => some []
  | d :: ds => match py1 S d, py1s S ds with
    | some p, some ps => some (p :: ps)
    | _, _ => none
/-- .. or a place with a list of such -/
def py2 (S : Store) : D → Option PyData
  | .ref n => match S[n]? with
    | some (.lst xs) => (py1s S xs).map .list
    | _ => none
  | .lst ds => (py1s S ds).map .list
  | d => py0 d
section
variable {m : Md} {W : Wd}
theorem dp_ints {K : PySem.W.Frag} {H : Hp} : ∀ ns : List Int, DpAll K H (ns.map V.int) (ns.map PyData.int)
  | [] => .nil
  | n :: ns => .cons (.int n) (dp_ints ns)
theorem plain_ints : ∀ ns : List Int, PyData.plainAll (ns.map PyData.int) = true
  | [] => rfl
  | n :: ns => by simp only [List.map_cons, PyData.plainAll, PyData.plain, plain_ints ns, Bool.and_self]
mutual
theorem py0_dp : ∀ (d : D) (v : V) (p : PyData), py0 d = some p → Rp m.K W d v → Dp m.K W.H v p
  | .non, _, _, h, r => by cases h; cases r; exact .non
  | .bl b, _, _, h, r => by cases h; cases r; exact .bl b
  | .int b, _, _, h, r => by cases h; cases r; exact .int b
  | .str b, _, _, h, r => by cases h; cases r; exact .str b
  | .tup ds, _, _, h, r => by
    simp only [py0, Option.map_eq_some_iff] at h
    obtain ⟨ps, h, rfl⟩ := h
    obtain ⟨a, vs, rfl, h1, h2⟩ := r
    exact .tup h1 (py0s_dp ds vs ps h h2)
  | .lst ds, _, _, h, r => by
    simp only [py0, Option.map_eq_some_iff] at h
    obtain ⟨ps, h, rfl⟩ := h
    obtain ⟨a, vs, rfl, h1, _, h2⟩ := r
    exact .lst (.inl (.inl h1)) (py0s_dp ds vs ps h h2)
  | .ref _, _, _, h, r => by cases h
  | .adr _, _, _, h, r => by cases h
  | .scr ns, _, _, h, r => by
    cases h
    obtain ⟨a, rfl, h⟩ := r
    exact .lst h.sq (dp_ints ns)
theorem py0s_dp : ∀ (ds : List D) (vs : List V) (ps : List PyData), py0s ds = some ps → Rps m.K W ds vs → DpAll m.K W.H vs ps
  | [], _, _, h, r => by cases h; cases r; exact .nil
  | d :: ds, _, _, h, r => by
    obtain ⟨v, vs, rfl, h1, h2⟩ := r
    simp only [py0s] at h
    split at h
    · rename_i p ps e1 e2
      cases h
      exact .cons (py0_dp d v p e1 h1) (py0s_dp ds vs ps e2 h2)
    · cases h
end
mutual
theorem py0_plain : ∀ (d : D) (p : PyData), py0 d = some p → p.plain = true
  | .non, _, h => by cases h; rfl
  | .bl b, _, h => by cases h; rfl
  | .int b, _, h => by cases h; rfl
  | .str b, _, h => by cases h; rfl
  | .tup ds, _, h => by
    simp only [py0, Option.map_eq_some_iff] at h
    obtain ⟨ps, h, rfl⟩ := h
    simp only [PyData.plain]
    exact py0s_plain ds ps h
  | .lst ds, _, h => by
    simp only [py0, Option.map_eq_some_iff] at h
    obtain ⟨ps, h, rfl⟩ := h
    simp only [PyData.plain]
    exact py0s_plain ds ps h
  | .ref _, _, h => by cases h
  | .adr _, _, h => by cases h
  | .scr ns, _, h => by
    cases h
    simp only [PyData.plain]
    exact plain_ints ns
theorem py0s_plain : ∀ (ds : List D) (ps : List PyData), py0s ds = some ps → PyData.plainAll ps = true
  | [], _, h => by cases h; rfl
  | d :: ds, _, h => by
    simp only [py0s] at h
    split at h
    · rename_i p ps e1 e2
      cases h
      simp only [PyData.plainAll, py0_plain d p e1, py0s_plain ds ps e2, Bool.and_self]
    · cases h
end
theorem py1_dp (ok : Ok m W) : ∀ (d : D) (v : V) (p : PyData), py1 W.S d = some p → Rp m.K W d v → Dp m.K W.H v p ∧ p.plain = true := by
  intro d v p h r
  cases d with
  | ref n =>
    simp only [py1] at h
    split at h
    · rename_i xs e
      simp only [Option.map_eq_some_iff] at h
      obtain ⟨ps, h, rfl⟩ := h
      obtain ⟨a, vs, rfl, h1, h2, h3⟩ := place_ok ok e r
      exact ⟨.lst (.inl (.inl h2)) (py0s_dp xs vs ps h h3), by simp only [PyData.plain]; exact py0s_plain xs ps h⟩
    · cases h
  | _ => exact ⟨py0_dp _ _ _ h r, py0_plain _ _ h⟩
theorem py1s_dp (ok : Ok m W) : ∀ (ds : List D) (vs : List V) (ps : List PyData), py1s W.S ds = some ps → Rps m.K W ds vs → DpAll m.K W.H vs ps ∧ PyData.plainAll ps = true
  | [], _, _, h, r => by cases h; cases r; exact ⟨.nil, rfl⟩
  | d :: ds, _, _, h, r => by
    obtain ⟨v, vs, rfl, h1, h2⟩ := r
    simp only [py1s] at h
    split at h
    · rename_i p ps e1 e2
      cases h
      obtain ⟨a1, a2⟩ := py1_dp ok d v p e1 h1
      obtain ⟨b1, b2⟩ := py1s_dp ok ds vs ps e2 h2
      exact ⟨.cons a1 b1, by simp only [PyData.plainAll, a2, b2, Bool.and_self]⟩
    · cases h
theorem py2_dp (ok : Ok m W) : ∀ (d : D) (v : V) (p : PyData), py2 W.S d = some p → Rp m.K W d v → Dp m.K W.H v p ∧ p.plain = true := by
  intro d v p h r
  cases d with
  | ref n =>
    simp only [py2] at h
    split at h
    · rename_i xs e
      simp only [Option.map_eq_some_iff] at h
      obtain ⟨ps, h, rfl⟩ := h
      obtain ⟨a, vs, rfl, h1, h2, h3⟩ := place_ok ok e r
      obtain ⟨b1, b2⟩ := py1s_dp ok xs vs ps h h3
      exact ⟨.lst (.inl (.inl h2)) b1, by simp only [PyData.plain]; exact b2⟩
    · cases h
  | lst xs =>
    simp only [py2, Option.map_eq_some_iff] at h
    obtain ⟨ps, h, rfl⟩ := h
    obtain ⟨a, vs, rfl, h1, _, h3⟩ := r
    obtain ⟨b1, b2⟩ := py1s_dp ok xs vs ps h h3
    exact ⟨.lst (.inl (.inl h1)) b1, by simp only [PyData.plain]; exact b2⟩
  | _ => exact ⟨py0_dp _ _ _ h r, py0_plain _ _ h⟩
end

/-! ### arithmetic -/
def small64 (i : Int) : Bool := decide (-(2 ^ 64) < i ∧ i < 2 ^ 64)
def opAdd (mu : Bool) : D → D → M D := fun x y S => match x, y with
  | .int a, .int b => some (.int (a + b), S)
  | .str a, .str b => if a.length + b.length ≤ sizeLine then some (.str (a ++ b), S) else none
  | .tup a, .tup b => if a.length + b.length ≤ sizeLine then some (.tup (a ++ b), S) else none
  | x, y => (listOf S x).bind fun a => (listOf S y).bind fun b => newL mu (a ++ b) S
def opSub : D → D → M D := fun x y S => match x, y with
  | .int a, .int b => some (.int (a - b), S)
  | _, _ => none
def opMul : D → D → M D := fun x y S => match x, y with
  | .int a, .int b => if small64 a || small64 b || decide (a.natAbs.log2 + b.natAbs.log2 < 1000000) then some (.int (a * b), S) else none
  | _, _ => none
def opFdiv : D → D → M D := fun x y S => match x, y with
  | .int a, .int b => if 0 < b ∧ b < 2 ^ 64 then some (.int (a / b), S) else none
  | _, _ => none
def opMod : D → D → M D := fun x y S => match x, y with
  | .int a, .int b => if 0 < b then some (.int (a % b), S) else none
  | _, _ => none
def opNeg : D → M D := fun x S => match x with
  | .int a => some (.int (-a), S)
  | _ => none
section
variable {X : Cx}
theorem o_add (mu : Bool) : Op2 X (binaryOp .Add) (opAdd mu) := OpR.split fun x y H Q h => by
  obtain ⟨W, dx, dy, d, S', rfl, ok, rx, ry, he, q⟩ := h
  have lists : ((listOf W.S dx).bind fun a => (listOf W.S dy).bind fun b => newL mu (a ++ b) W.S) = some (d, S') → ∃ r, OpR X (binaryOp .Add) r ∧ r x y W.H Q := fun he => by
    rw [Option.bind_eq_some_iff] at he
    obtain ⟨a, ha, he⟩ := he
    rw [Option.bind_eq_some_iff] at he
    obtain ⟨b, hb, he⟩ := he
    obtain ⟨p1, vs1, rfl, h1, r1⟩ := listOf_ok ok ha rx
    obtain ⟨p2, vs2, rfl, h2, r2⟩ := listOf_ok ok hb ry
    have hl := newL_len he
    rw [List.length_append, r1.length, r2.length] at hl
    exact ⟨_, op_cat, p1, p2, vs1, vs2, rfl, rfl, h1, h2, hl, fun p hp => newL_ok he ok (r1.append r2) hp q⟩
  unfold opAdd at he
  split at he
  · cases he; cases rx; cases ry
    exact ⟨_, op_add, _, _, rfl, rfl, q.val ok rfl⟩
  · split at he
    · rename_i hz
      cases he; cases rx; cases ry
      exact ⟨_, op_add_str, _, _, rfl, rfl, hz, q.val ok rfl⟩
    · cases he
  · split at he
    · rename_i a b hz
      cases he
      obtain ⟨p1, vs1, rfl, h1, r1⟩ := rx
      obtain ⟨p2, vs2, rfl, h2, r2⟩ := ry
      refine ⟨_, op_catA, p1, p2, vs1, vs2, rfl, rfl, h1, h2, by rw [← r1.length, ← r2.length]; exact hz, fun z => ?_, fun z z2 => ?_, fun z z2 p hp => newT_ok ok (r1.append r2) hp q⟩
      · refine q.val ok ⟨p2, vs2, rfl, h2, ?_⟩
        have : a = [] := by have := r1.length; rw [z] at this; exact List.length_eq_zero_iff.mp this
        subst this; exact r2
      · refine q.val ok ⟨p1, vs1, rfl, h1, ?_⟩
        have : b = [] := by have := r2.length; rw [z2] at this; exact List.length_eq_zero_iff.mp this
        subst this; rw [List.append_nil]; exact r1
    · cases he
  · exact lists he
theorem o_sub : Op2 X (binaryOp .Sub) opSub := OpR.split fun x y H Q h => by
  obtain ⟨W, dx, dy, d, S', rfl, ok, rx, ry, he, q⟩ := h
  unfold opSub at he
  split at he
  · cases he; cases rx; cases ry
    exact ⟨_, op_sub, _, _, rfl, rfl, q.val ok rfl⟩
  · cases he
theorem o_mul : Op2 X (binaryOp .Mult) opMul := OpR.split fun x y H Q h => by
  obtain ⟨W, dx, dy, d, S', rfl, ok, rx, ry, he, q⟩ := h
  unfold opMul at he
  split at he
  · split at he
    · rename_i a b hz
      cases he; cases rx; cases ry
      rw [Bool.or_eq_true, Bool.or_eq_true] at hz
      rcases hz with (hz | hz) | hz
      · exact ⟨_, op_mul, _, _, rfl, rfl, .inl (of_decide_eq_true hz), q.val ok rfl⟩
      · exact ⟨_, op_mul, _, _, rfl, rfl, .inr (of_decide_eq_true hz), q.val ok rfl⟩
      · exact ⟨_, op_mulW, a, b, rfl, rfl, (show a.natAbs.log2 + b.natAbs.log2 < 1000000 from of_decide_eq_true hz), q.val ok rfl⟩
    · cases he
  · cases he
theorem log_small {b : Int} (h : 0 < b) (h2 : b < 2 ^ 64) : b.natAbs.log2 < 9000 := by
  have : b.natAbs < 2 ^ 64 := by omega
  have := PySem.Flt.log2_lt_of (by decide : 0 < 64) this
  omega
theorem o_fdiv : Op2 X (binaryOp .FloorDiv) opFdiv := OpR.split fun x y H Q h => by
  obtain ⟨W, dx, dy, d, S', rfl, ok, rx, ry, he, q⟩ := h
  unfold opFdiv at he
  split at he
  · split at he
    · rename_i a b hz
      cases he; cases rx; cases ry
      exact ⟨_, op_fdivW, _, _, rfl, rfl, ⟨hz.1, log_small hz.1 hz.2⟩, q.val ok rfl⟩
    · cases he
  · cases he
theorem o_mod : Op2 X (binaryOp .Mod) opMod := OpR.split fun x y H Q h => by
  obtain ⟨W, dx, dy, d, S', rfl, ok, rx, ry, he, q⟩ := h
  unfold opMod at he
  split at he
  · split at he
    · rename_i a b hz
      cases he; cases rx; cases ry
      exact ⟨_, op_mod, _, _, rfl, rfl, hz, q.val ok rfl⟩
    · cases he
  · cases he
theorem UnR.split {f : Value → Sem Value} {r' : V → Hp → VK → Prop} (h : ∀ x H Q, r' x H Q → ∃ r, UnR X f r ∧ r x H Q) : UnR X f r' := fun pins s σ H x v Q I rx q => by
  obtain ⟨r, h1, h2⟩ := h x H Q q
  exact h1 pins s σ H x v Q I rx h2
theorem o_neg : Op1 X (unaryOp .USub) opNeg := UnR.split fun x H Q h => by
  obtain ⟨W, dx, d, S', rfl, ok, rx, he, q⟩ := h
  unfold opNeg at he
  split at he
  · cases he; cases rx
    exact ⟨_, un_neg, _, rfl, q.val ok rfl⟩
  · cases he

/-! ### comparisons -/
def opEq (neg : Bool) : D → D → M D := fun x y S => (py2 S x).bind fun a => (py2 S y).bind fun b => if min a.depth b.depth ≤ 100 then some (.bl (neg != PyData.eqv a b), S) else none
theorem o_eq (hu : X.A.units + 190 < cLine) : Op2 X (compareOp .Eq) (opEq false) := fun pins s σ H x y v u Q I hx hy h => by
  obtain ⟨W, dx, dy, d, S', rfl, ok, rx, ry, he, q⟩ := h
  unfold opEq at he
  rw [Option.bind_eq_some_iff] at he
  obtain ⟨a, ha, he⟩ := he
  rw [Option.bind_eq_some_iff] at he
  obtain ⟨b, hb, he⟩ := he
  split at he
  · rename_i hz
    cases he
    obtain ⟨a1, a2⟩ := py2_dp ok dx x a ha rx
    obtain ⟨b1, b2⟩ := py2_dp ok dy y b hb ry
    obtain ⟨as, r1⟩ := Dp.reads I a x v a1 hx
    obtain ⟨bs, r2⟩ := Dp.reads I b y u b1 hy
    refine SeqAt.eq_plain r1 r2 a2 b2 (by omega) ⟨.bl _, W.H, I, rfl, ?_⟩
    have e : (false != PyData.eqv a b) = PyData.eqv a b := by cases PyData.eqv a b <;> rfl
    rw [e] at q
    exact q.val ok rfl
  · cases he
theorem o_ne (hu : X.A.units + 190 < cLine) : Op2 X (compareOp .NotEq) (opEq true) := fun pins s σ H x y v u Q I hx hy h => by
  obtain ⟨W, dx, dy, d, S', rfl, ok, rx, ry, he, q⟩ := h
  unfold opEq at he
  rw [Option.bind_eq_some_iff] at he
  obtain ⟨a, ha, he⟩ := he
  rw [Option.bind_eq_some_iff] at he
  obtain ⟨b, hb, he⟩ := he
  split at he
  · rename_i hz
    cases he
    obtain ⟨a1, a2⟩ := py2_dp ok dx x a ha rx
    obtain ⟨b1, b2⟩ := py2_dp ok dy y b hb ry
    obtain ⟨as, r1⟩ := Dp.reads I a x v a1 hx
    obtain ⟨bs, r2⟩ := Dp.reads I b y u b1 hy
    refine SeqAt.ne_plain r1 r2 a2 b2 (by omega) ⟨.bl _, W.H, I, rfl, ?_⟩
    have e : (true != PyData.eqv a b) = !PyData.eqv a b := by cases PyData.eqv a b <;> rfl
    rw [e] at q
    exact q.val ok rfl
  · cases he
def opLt : D → D → M D := fun x y S => match x, y with
  | .int a, .int b => some (.bl (decide (a < b)), S)
  | _, _ => none
def opLe : D → D → M D := fun x y S => match x, y with
  | .int a, .int b => some (.bl (decide (a ≤ b)), S)
  | _, _ => none
def opGt : D → D → M D := fun x y S => match x, y with
  | .int a, .int b => some (.bl (decide (b < a)), S)
  | _, _ => none
def opGe : D → D → M D := fun x y S => match x, y with
  | .int a, .int b => some (.bl (decide (b ≤ a)), S)
  | _, _ => none
theorem o_lt : Op2 X (compareOp .Lt) opLt := OpR.split fun x y H Q h => by
  obtain ⟨W, dx, dy, d, S', rfl, ok, rx, ry, he, q⟩ := h
  unfold opLt at he
  split at he
  · cases he; cases rx; cases ry
    exact ⟨_, op_lt, _, _, rfl, rfl, q.val ok rfl⟩
  · cases he
theorem o_le : Op2 X (compareOp .LtE) opLe := OpR.split fun x y H Q h => by
  obtain ⟨W, dx, dy, d, S', rfl, ok, rx, ry, he, q⟩ := h
  unfold opLe at he
  split at he
  · cases he; cases rx; cases ry
    exact ⟨_, op_le, _, _, rfl, rfl, q.val ok rfl⟩
  · cases he
theorem o_gt : Op2 X (compareOp .Gt) opGt := OpR.split fun x y H Q h => by
  obtain ⟨W, dx, dy, d, S', rfl, ok, rx, ry, he, q⟩ := h
  unfold opGt at he
  split at he
  · cases he; cases rx; cases ry
    exact ⟨_, op_gt, _, _, rfl, rfl, q.val ok rfl⟩
  · cases he
theorem o_ge : Op2 X (compareOp .GtE) opGe := OpR.split fun x y H Q h => by
  obtain ⟨W, dx, dy, d, S', rfl, ok, rx, ry, he, q⟩ := h
  unfold opGe at he
  split at he
  · cases he; cases rx; cases ry
    exact ⟨_, op_ge, _, _, rfl, rfl, q.val ok rfl⟩
  · cases he
/-- pairs of data, less -/
def opLtD : D → D → M D := fun x y S => (py0 x).bind fun a => (py0 y).bind fun b => if PySem.W.alike a b = true ∧ (match a with | .none => false | _ => true) = true ∧ min a.depth b.depth ≤ 100 then some (.bl (PySem.W.dataLt a b), S) else none
/-- is None, is True, is False -/
def opIs (neg : Bool) : D → D → M D := fun x y S => match x, y with
  | x, .non => some (.bl (neg != decide (x = .non)), S)
  | .bl a, .bl b => some (.bl (neg != decide (a = b)), S)
  | _, _ => none
theorem rp_non {m : Md} {W : Wd} {d : D} {v : V} (r : Rp m.K W d v) : decide (v = .non) = decide (d = .non) := by
  cases d with
  | non => cases r; rfl
  | bl b => cases r; rfl
  | int b => cases r; rfl
  | str b => cases r; rfl
  | tup ds => obtain ⟨a, vs, rfl, _⟩ := r; rfl
  | lst ds => obtain ⟨a, vs, rfl, _⟩ := r; rfl
  | ref n => obtain ⟨a, rfl, _⟩ := r; rfl
  | adr b => cases r; rfl
  | scr b => obtain ⟨a, rfl, _⟩ := r; rfl
theorem o_is : Op2 X (compareOp .Is) (opIs false) := OpR.split fun x y H Q h => by
  obtain ⟨W, dx, dy, d, S', rfl, ok, rx, ry, he, q⟩ := h
  unfold opIs at he
  split at he
  · cases he; cases ry
    refine ⟨_, op_isN, rfl, ?_⟩
    rw [rp_non rx]
    have e : (false != decide (dx = D.non)) = decide (dx = D.non) := by cases decide (dx = D.non) <;> rfl
    rw [e] at q
    exact q.val ok rfl
  · rename_i a b
    cases he; cases rx; cases ry
    refine ⟨_, op_is_bl, _, _, rfl, rfl, ?_⟩
    have e : (false != decide (a = b)) = decide (a = b) := by cases decide (a = b) <;> rfl
    rw [e] at q
    exact q.val ok rfl
  · cases he
theorem o_isnot : Op2 X (compareOp .IsNot) (opIs true) := OpR.split fun x y H Q h => by
  obtain ⟨W, dx, dy, d, S', rfl, ok, rx, ry, he, q⟩ := h
  unfold opIs at he
  split at he
  · cases he; cases ry
    refine ⟨_, op_notN, rfl, ?_⟩
    rw [rp_non rx]
    have e : (true != decide (dx = D.non)) = !decide (dx = D.non) := by cases decide (dx = D.non) <;> rfl
    rw [e] at q
    exact q.val ok rfl
  · rename_i a b
    cases he; cases rx; cases ry
    refine ⟨_, op_isnot_bl, _, _, rfl, rfl, ?_⟩
    have e : (true != decide (a = b)) = !decide (a = b) := by cases decide (a = b) <;> rfl
    rw [e] at q
    exact q.val ok rfl
  · cases he
end
end Ev
end L2

namespace L2
namespace Ev
open PyProof.Rows PySem.Spec PySem L2
variable [Tb]

/-! ### truth, tests -/
def truD (S : Store) : D → Option Bool
  | .non => some false
  | .bl b => some b
  | .int i => some (i != 0)
  | .str y => if y.length ≤ sizeLine then some ((y.length : Int) != 0) else none
  | .tup xs => some (!xs.isEmpty)
  | d => (readOf S d).map fun xs => !xs.isEmpty
section
variable {m : Md} {W : Wd}
theorem rps_empty {ds : List D} {vs : List V} (r : Rps m.K W ds vs) : ds.isEmpty = vs.isEmpty := by
  have := r.length
  cases ds <;> cases vs <;> simp_all
theorem truD_ok {d : D} {v : V} {b : Bool} (ok : Ok m W) (h : truD W.S d = some b) (r : Rp m.K W d v) : TruV m.K v W.H b := by
  have rd : (readOf W.S d).map (fun xs => !xs.isEmpty) = some b → TruV m.K v W.H b := fun g => by
    rw [Option.map_eq_some_iff] at g
    obtain ⟨xs, g, eb⟩ := g
    obtain ⟨a, vs, rfl, h1, h2⟩ := readOf_ok ok g r
    exact .inl ⟨vs, h1, by rw [← eb, rps_empty h2]⟩
  cases d with
  | non => cases h; cases r; rfl
  | bl b => cases h; cases r; rfl
  | int b => cases h; cases r; rfl
  | str y =>
    simp only [truD] at h
    split at h
    · rename_i hz
      cases h; cases r
      exact ⟨hz, rfl⟩
    · cases h
  | tup xs =>
    cases h
    obtain ⟨a, vs, rfl, h1, h2⟩ := r
    exact .inr (.inl ⟨vs, h1, by rw [rps_empty h2]⟩)
  | _ => exact rd (by simpa only [truD] using h)
end
section
variable {X : Cx} {e a b c : Expr} {es rest : List Expr} {pos : Pos} {fa fb fc : ME} {ta tb tc : MT}
/-- an expression as a test -/
def tOf (f : ME) : MT := fun ρ S => (f ρ S).bind fun (x, S1) => (truD S1 x).map (·, S1)
theorem t_of (h : EvE X e fa) (he : ∀ whole, isTrue e X.env whole = (do let v ← whole; standAt e.pos; holding [v] (truthy v)) := by intro _; rfl) : EvT X e (tOf fa) := PT.imp (pt_truth h he) fun σ H Q => by
  rintro ⟨W, ρ, b, S', rfl, ok, hρ, he, q⟩
  unfold tOf at he
  rw [Option.bind_eq_some_iff] at he
  obtain ⟨⟨x, S1⟩, e1, he⟩ := he
  simp only [Option.map_eq_some_iff, Prod.mk.injEq] at he
  obtain ⟨b', e2, rfl, rfl⟩ := he
  exact ⟨W, ρ, x, S1, rfl, ok, hρ, e1, fun W' v st r => ⟨b', truD_ok st.ok (by rw [st.st]; exact e2) r, q W' st⟩⟩
/-- one comparison as a test -/
theorem t_cmp {op : CmpOp} {g : D → D → M D} (ho : Op2 X (compareOp op) g) (ha : EvE X a fa) (hb : EvE X b fb) (hbl : ∀ x y S d S', g x y S = some (d, S') → ∃ k, d = .bl k) (hm : behindInMarks op b = false := by first | exact nomark _ | rfl) : EvT X (.Compare a [op] [b] pos) (tOf (eBin g fa fb)) := PT.imp (pt_cmpR ho ha hb hm) fun σ H Q => by
  rintro ⟨W, ρ, b, S', rfl, ok, hρ, he, q⟩
  unfold tOf at he
  rw [Option.bind_eq_some_iff] at he
  obtain ⟨⟨x, S1⟩, e1, he⟩ := he
  simp only [Option.map_eq_some_iff, Prod.mk.injEq] at he
  obtain ⟨b', e2, rfl, rfl⟩ := he
  refine bin_go ⟨W, ρ, x, S1, rfl, ok, hρ, e1, fun W' v st r => ?_⟩
  have hk : ∃ k, x = .bl k := by
    unfold eBin at e1
    rw [Option.bind_eq_some_iff] at e1
    obtain ⟨⟨y, S2⟩, _, e1⟩ := e1
    rw [Option.bind_eq_some_iff] at e1
    obtain ⟨⟨z, S3⟩, _, e1⟩ := e1
    exact hbl _ _ _ _ _ e1
  obtain ⟨k, rfl⟩ := hk
  have : b' = k := (Option.some.inj (show some k = some b' from e2)).symm
  subst this
  exact ⟨b', r, q W' st⟩
def tNotD (t : MT) : MT := fun ρ S => (t ρ S).map fun (b, S1) => (!b, S1)
theorem t_not (h : EvT X a ta) : EvT X (.UnaryOp .Not a pos) (tNotD ta) := PT.imp (pt_not h) fun σ H Q => by
  rintro ⟨W, ρ, b, S', rfl, ok, hρ, he, q⟩
  unfold tNotD at he
  simp only [Option.map_eq_some_iff, Prod.mk.injEq, Prod.exists] at he
  obtain ⟨b', S1, e1, rfl, rfl⟩ := he
  exact ⟨W, ρ, b', S1, rfl, ok, hρ, e1, q⟩
def tAndD (t u : MT) : MT := fun ρ S => (t ρ S).bind fun (b, S1) => if b = true then u ρ S1 else some (false, S1)
def tOrD (t u : MT) : MT := fun ρ S => (t ρ S).bind fun (b, S1) => if b = true then some (true, S1) else u ρ S1
def EvW (X : Cx) (e : Expr) (f : MT) : Prop := PW X e (tT (md X) f)
theorem w_t (h : EvW X e ta) : EvT X e ta := PW.pt h
theorem w_and1 (h : EvT X a ta) : EvW X (.BoolOp .And [a] pos) ta := pw_and1 h
theorem w_or1 (h : EvT X a ta) : EvW X (.BoolOp .Or [a] pos) ta := pw_or1 h
theorem w_and (h : EvT X a ta) (h2 : EvW X (.BoolOp .And (b :: rest) pos) tb) : EvW X (.BoolOp .And (a :: b :: rest) pos) (tAndD ta tb) := PW.imp (pw_and h h2) fun σ H Q => by
  rintro ⟨W, ρ, b, S', rfl, ok, hρ, he, q⟩
  unfold tAndD at he
  rw [Option.bind_eq_some_iff] at he
  obtain ⟨⟨x, S1⟩, e1, he⟩ := he
  refine ⟨W, ρ, x, S1, rfl, ok, hρ, e1, fun W' st => ?_⟩
  dsimp only at he
  split at he
  · rename_i hx; subst hx
    rw [if_pos rfl]
    exact ⟨W', ρ, b, S', rfl, st.ok, st.ext.rσ hρ, by rw [st.st]; exact he, fun W2 st2 => q W2 (st.trans st2)⟩
  · rename_i hx
    rw [if_neg hx]
    cases he
    exact q W' st
theorem w_or (h : EvT X a ta) (h2 : EvW X (.BoolOp .Or (b :: rest) pos) tb) : EvW X (.BoolOp .Or (a :: b :: rest) pos) (tOrD ta tb) := PW.imp (pw_or h h2) fun σ H Q => by
  rintro ⟨W, ρ, b, S', rfl, ok, hρ, he, q⟩
  unfold tOrD at he
  rw [Option.bind_eq_some_iff] at he
  obtain ⟨⟨x, S1⟩, e1, he⟩ := he
  refine ⟨W, ρ, x, S1, rfl, ok, hρ, e1, fun W' st => ?_⟩
  dsimp only at he
  split at he
  · rename_i hx; subst hx
    rw [if_pos rfl]
    cases he
    exact q W' st
  · rename_i hx
    rw [if_neg hx]
    exact ⟨W', ρ, b, S', rfl, st.ok, st.ext.rσ hρ, by rw [st.st]; exact he, fun W2 st2 => q W2 (st.trans st2)⟩
/-- a < b < c as a test -/
def eChain (g h : D → D → M D) (fa fb fc : ME) : ME := fun ρ S => (fa ρ S).bind fun (x, S1) => (fb ρ S1).bind fun (y, S2) => (g x y S2).bind fun (z, S3) => match z with
  | .bl true => (fc ρ S3).bind fun (u, S4) => h y u S4
  | .bl false => some (.bl false, S3)
  | _ => none
theorem chain_go {m : Md} {g h : D → D → M D} {σ : St} {H : Hp} {Q : VK} (hh : tE m (eChain g h fa fb fc) σ H Q) : tChain (rOp m g) (rOp m h) (tE m fa) (tE m fb) (tE m fc) σ H Q := by
  obtain ⟨W, ρ, d, S', rfl, ok, hρ, he, q⟩ := hh
  unfold eChain at he
  rw [Option.bind_eq_some_iff] at he
  obtain ⟨⟨x, S1⟩, e1, he⟩ := he
  rw [Option.bind_eq_some_iff] at he
  obtain ⟨⟨y, S2⟩, e2, he⟩ := he
  rw [Option.bind_eq_some_iff] at he
  obtain ⟨⟨z, S3⟩, e3, he⟩ := he
  refine ⟨W, ρ, x, S1, rfl, ok, hρ, e1, fun W1 v st r => ⟨W1, ρ, y, S2, rfl, st.ok, st.ext.rσ hρ, by rw [st.st]; exact e2, fun W2 u st2 r2 => ?_⟩⟩
  refine ⟨W2, x, y, z, S3, rfl, st2.ok, st2.ext _ _ r, r2, by rw [st2.st]; exact e3, fun W3 zv st3 r3 => ?_⟩
  dsimp only at he
  split at he
  · refine ⟨true, r3, ?_⟩
    rw [if_pos rfl]
    rw [Option.bind_eq_some_iff] at he
    obtain ⟨⟨u', S4⟩, e4, he⟩ := he
    refine ⟨W3, ρ, u', S4, rfl, st3.ok, st3.ext.rσ (st2.ext.rσ (st.ext.rσ hρ)), by rw [st3.st]; exact e4, fun W4 w' st4 r4 => ?_⟩
    exact ⟨W4, y, u', d, S', rfl, st4.ok, st4.ext _ _ (st3.ext _ _ r2), r4, by rw [st4.st]; exact he, q.step (st.trans (st2.trans (st3.trans st4)))⟩
  · refine ⟨false, r3, ?_⟩
    rw [if_neg Bool.false_ne_true]
    cases he
    exact q W3 (.bl false) (st.trans (st2.trans st3)) rfl
  · cases he
theorem e_chain {op op' : CmpOp} {g h : D → D → M D} (ho : Op2 X (compareOp op) g) (ho' : Op2 X (compareOp op') h) (ha : EvE X a fa) (hb : EvE X b fb) (hc : EvE X c fc) (hm : lastMarks [op, op'] [b, c] = false := by with_unfolding_all rfl) :
    EvE X (.Compare a [op, op'] [b, c] pos) (eChain g h fa fb fc) := PE.imp (pe_chain ho ho' ha hb hc hm) fun _ _ _ h => chain_go h
/-! ### and, or, not as values -/
def eAnd (f g : ME) : ME := fun ρ S => (f ρ S).bind fun (x, S1) => (truD S1 x).bind fun b => if b = true then g ρ S1 else some (x, S1)
def eOr (f g : ME) : ME := fun ρ S => (f ρ S).bind fun (x, S1) => (truD S1 x).bind fun b => if b = true then some (x, S1) else g ρ S1
def eNot (f : ME) : ME := fun ρ S => (f ρ S).bind fun (x, S1) => (truD S1 x).map fun b => (.bl (!b), S1)
theorem e_one {op} (h : EvE X a fa) : EvE X (.BoolOp op [a] pos) fa := pe_one h
theorem e_and (h : EvE X a fa) (h2 : EvE X (.BoolOp .And (b :: rest) pos) fb) : EvE X (.BoolOp .And (a :: b :: rest) pos) (eAnd fa fb) := PE.imp (pe_andT h h2) fun σ H Q => by
  rintro ⟨W, ρ, d, S', rfl, ok, hρ, he, q⟩
  unfold eAnd at he
  rw [Option.bind_eq_some_iff] at he
  obtain ⟨⟨x, S1⟩, e1, he⟩ := he
  rw [Option.bind_eq_some_iff] at he
  obtain ⟨k, e2, he⟩ := he
  refine ⟨W, ρ, x, S1, rfl, ok, hρ, e1, fun W' v st r => ⟨k, truD_ok st.ok (by rw [st.st]; exact e2) r, ?_⟩⟩
  split at he
  · rename_i hx; rw [if_pos hx]
    exact ⟨W', ρ, d, S', rfl, st.ok, st.ext.rσ hρ, by rw [st.st]; exact he, q.step st⟩
  · rename_i hx; rw [if_neg hx]
    cases he
    exact q W' v st r
theorem e_or (h : EvE X a fa) (h2 : EvE X (.BoolOp .Or (b :: rest) pos) fb) : EvE X (.BoolOp .Or (a :: b :: rest) pos) (eOr fa fb) := PE.imp (pe_orT h h2) fun σ H Q => by
  rintro ⟨W, ρ, d, S', rfl, ok, hρ, he, q⟩
  unfold eOr at he
  rw [Option.bind_eq_some_iff] at he
  obtain ⟨⟨x, S1⟩, e1, he⟩ := he
  rw [Option.bind_eq_some_iff] at he
  obtain ⟨k, e2, he⟩ := he
  refine ⟨W, ρ, x, S1, rfl, ok, hρ, e1, fun W' v st r => ⟨k, truD_ok st.ok (by rw [st.st]; exact e2) r, ?_⟩⟩
  split at he
  · rename_i hx; rw [if_pos hx]
    cases he
    exact q W' v st r
  · rename_i hx; rw [if_neg hx]
    exact ⟨W', ρ, d, S', rfl, st.ok, st.ext.rσ hρ, by rw [st.st]; exact he, q.step st⟩
theorem e_not (h : EvE X a fa) : EvE X (.UnaryOp .Not a pos) (eNot fa) := PE.imp (pe_notT h) fun σ H Q => by
  rintro ⟨W, ρ, d, S', rfl, ok, hρ, he, q⟩
  unfold eNot at he
  rw [Option.bind_eq_some_iff] at he
  obtain ⟨⟨x, S1⟩, e1, he⟩ := he
  simp only [Option.map_eq_some_iff, Prod.mk.injEq] at he
  obtain ⟨k, e2, rfl, e3⟩ := he
  subst e3
  exact ⟨W, ρ, x, _, rfl, ok, hρ, e1, fun W' v st r => ⟨k, truD_ok st.ok (by rw [st.st]; exact e2) r, q W' _ st rfl⟩⟩
def eIf (t : MT) (f g : ME) : ME := fun ρ S => (t ρ S).bind fun (b, S1) => if b = true then f ρ S1 else g ρ S1
theorem e_if (h : EvT X c ta) (h1 : EvE X a fa) (h2 : EvE X b fb) : EvE X (.IfExp c a b pos) (eIf ta fa fb) := PE.imp (pe_ifExp h h1 h2) fun σ H Q => by
  rintro ⟨W, ρ, d, S', rfl, ok, hρ, he, q⟩
  unfold eIf at he
  rw [Option.bind_eq_some_iff] at he
  obtain ⟨⟨x, S1⟩, e1, he⟩ := he
  refine ⟨W, ρ, x, S1, rfl, ok, hρ, e1, fun W' st => ?_⟩
  dsimp only at he
  split at he
  · rename_i hx; rw [if_pos hx]
    exact ⟨W', ρ, d, S', rfl, st.ok, st.ext.rσ hρ, by rw [st.st]; exact he, q.step st⟩
  · rename_i hx; rw [if_neg hx]
    exact ⟨W', ρ, d, S', rfl, st.ok, st.ext.rσ hρ, by rw [st.st]; exact he, q.step st⟩

/-! ### argument lists, displays -/
def aNil : MA := fun _ S => some ([], S)
def aCons (f : ME) (g : MA) : MA := fun ρ S => (f ρ S).bind fun (x, S1) => (g ρ S1).map fun (xs, S2) => (x :: xs, S2)
theorem a_nil : EvA X [] aNil := PA.imp pa_nil fun σ H Q => by
  rintro ⟨W, ρ, ds, S', rfl, ok, hρ, he, q⟩
  cases he
  exact q W [] (Step.refl ok) rfl
theorem a_cons {g : MA} (h : EvE X e fa) (hr : EvA X es g) (hs : starEach (e :: es) X.env = (false, eval e X.env) :: starEach es X.env := by rfl) : EvA X (e :: es) (aCons fa g) := PA.imp (pa_cons h hr hs) fun σ H Q => by
  rintro ⟨W, ρ, ds, S', rfl, ok, hρ, he, q⟩
  unfold aCons at he
  rw [Option.bind_eq_some_iff] at he
  obtain ⟨⟨x, S1⟩, e1, he⟩ := he
  simp only [Option.map_eq_some_iff, Prod.mk.injEq, Prod.exists] at he
  obtain ⟨xs, S2, e2, rfl, rfl⟩ := he
  exact ⟨W, ρ, x, S1, rfl, ok, hρ, e1, fun W' v st r => ⟨W', ρ, xs, S2, rfl, st.ok, st.ext.rσ hρ, by rw [st.st]; exact e2, fun W2 vs st2 r2 => q W2 (v :: vs) (st.trans st2) ⟨v, vs, rfl, st2.ext _ _ r, r2⟩⟩⟩
def eTup (f : MA) : ME := fun ρ S => (f ρ S).bind fun (xs, S1) => if xs.length ≤ sizeLine then some (.tup xs, S1) else none
def eLst (mu : Bool) (f : MA) : ME := fun ρ S => (f ρ S).bind fun (xs, S1) => newL mu xs S1
theorem e_tup {f : MA} {x1} (h : EvA X es f) : EvE X (.Tuple es x1 pos) (eTup f) := PE.imp (pe_tup h) fun σ H Q => by
  rintro ⟨W, ρ, d, S', rfl, ok, hρ, he, q⟩
  unfold eTup at he
  rw [Option.bind_eq_some_iff] at he
  obtain ⟨⟨xs, S1⟩, e1, he⟩ := he
  dsimp only at he
  split at he
  · rename_i hz
    cases he
    refine ⟨W, ρ, xs, _, rfl, ok, hρ, e1, fun W' vs st r => ⟨by rw [← r.length]; exact hz, fun p hp => newT_ok st.ok r hp ?_⟩⟩
    have q' := q.step st
    rw [st.st]; exact q'
  · cases he
theorem e_lst {f : MA} (mu : Bool) (h : EvA X es f) : EvE X (.List es pos) (eLst mu f) := PE.imp (pe_lst h) fun σ H Q => by
  rintro ⟨W, ρ, d, S', rfl, ok, hρ, he, q⟩
  unfold eLst at he
  rw [Option.bind_eq_some_iff] at he
  obtain ⟨⟨xs, S1⟩, e1, he⟩ := he
  dsimp only at he
  exact ⟨W, ρ, xs, S1, rfl, ok, hρ, e1, fun W' vs st r => ⟨by rw [← r.length]; exact newL_len he, fun p hp => newL_ok (by rw [st.st]; exact he) st.ok r hp (q.step st)⟩⟩

/-! ### subscripts, slices -/
def opIx : D → D → M D := fun x y S => match x, y with
  | .tup xs, .int i => (atI xs i).map (·, S)
  | .str z, .int i => if z.length ≤ sizeLine then (atI z.cps.toList i).map fun c => (.str ⟨#[c]⟩, S) else none
  | x, .int i => (readOf S x).bind fun xs => (atI xs i).map (·, S)
  | _, _ => none
theorem rps_at {m : Md} {W : Wd} {ds : List D} {vs : List V} {i : Int} {d : D} (r : Rps m.K W ds vs) (h : atI ds i = some d) : ∃ v, atI vs i = some v ∧ Rp m.K W d v := by
  unfold atI at h
  rw [Option.bind_eq_some_iff] at h
  obtain ⟨j, h1, h2⟩ := h
  obtain ⟨v, h3, h4⟩ := r.get h2
  exact ⟨v, by unfold atI; rw [← r.length, h1]; exact h3, h4⟩
theorem IxR.split {r' : R2} (h : ∀ x y H Q, r' x y H Q → ∃ r, IxR X r ∧ r x y H Q) : IxR X r' := fun value slice pins s σ H x y v u Q I rx ry q hs => by
  obtain ⟨r, h1, h2⟩ := h x y H Q q
  exact h1 value slice pins s σ H x y v u Q I rx ry h2 hs
theorem o_ix : IxR X (rOp (md X) opIx) := IxR.split fun x y H Q h => by
  obtain ⟨W, dx, dy, d, S', rfl, ok, rx, ry, he, q⟩ := h
  unfold opIx at he
  split at he
  · simp only [Option.map_eq_some_iff, Prod.mk.injEq] at he
    obtain ⟨e, h1, rfl, rfl⟩ := he
    cases ry
    obtain ⟨a, vs, rfl, h2, h3⟩ := rx
    obtain ⟨v, h4, h5⟩ := rps_at h3 h1
    exact ⟨_, ix_tup, a, vs, _, v, rfl, rfl, h2, h4, q.val ok h5⟩
  · split at he
    · rename_i hz
      simp only [Option.map_eq_some_iff, Prod.mk.injEq] at he
      obtain ⟨c, h1, rfl, rfl⟩ := he
      cases rx; cases ry
      exact ⟨_, ix_str, _, _, c, rfl, rfl, hz, h1, q.val ok rfl⟩
    · cases he
  · rw [Option.bind_eq_some_iff] at he
    obtain ⟨xs, h0, he⟩ := he
    simp only [Option.map_eq_some_iff, Prod.mk.injEq] at he
    obtain ⟨e, h1, rfl, rfl⟩ := he
    cases ry
    obtain ⟨a, vs, rfl, h2, h3⟩ := readOf_ok ok h0 rx
    obtain ⟨v, h4, h5⟩ := rps_at h3 h1
    exact ⟨_, ix_list, a, vs, _, v, rfl, rfl, h2, h4, q.val ok h5⟩
  · cases he
theorem e_ix (ha : EvE X a fa) (hb : EvE X b fb) (hs : PlainIx b := by exact fun _ _ => rfl) : EvE X (.Subscript a b pos) (eBin opIx fa fb) := PE.imp (pe_ix o_ix ha hb hs) fun _ _ _ h => bin_go h
/-- a part of a slice -/
abbrev MO := EnvD → M (Option Int)
def tOp' (m : Md) (f : MO) : TO := fun σ H Q => ∃ W ρ o S', W.H = H ∧ Ok m W ∧ Rσ m.K W ρ σ ∧ f ρ W.S = some (o, S') ∧ ∀ W', Stp m W S' W' → Q o W'.H
def EvO (X : Cx) (e : Option Expr) (f : MO) : Prop := PO X e (tOp' (md X) f)
theorem PO.imp {e : Option Expr} {t t' : TO} (h : PO X e t) (i : ∀ σ H Q, t' σ H Q → t σ H Q) : PO X e t' := ⟨fun pins s σ H Q I q => h.run pins s σ H Q I (i σ H Q q)⟩
def oNo : MO := fun _ S => some (none, S)
def oYes (f : ME) : MO := fun ρ S => (f ρ S).bind fun (x, S1) => match x with
  | .int i => some (some i, S1)
  | _ => none
theorem o_no : EvO X none oNo := PO.imp po_none fun σ H Q => by
  rintro ⟨W, ρ, o, S', rfl, ok, hρ, he, q⟩
  cases he
  exact q W (Step.refl ok)
theorem o_yes (h : EvE X e fa) : EvO X (some e) (oYes fa) := PO.imp (po_some h) fun σ H Q => by
  rintro ⟨W, ρ, o, S', rfl, ok, hρ, he, q⟩
  unfold oYes at he
  rw [Option.bind_eq_some_iff] at he
  obtain ⟨⟨x, S1⟩, e1, he⟩ := he
  dsimp only at he
  split at he
  · rename_i i
    cases he
    exact ⟨W, ρ, .int i, _, rfl, ok, hρ, e1, fun W' v st r => ⟨i, r, q W' st⟩⟩
  · cases he
def cutD (xs : List D) (lo hi : Option Int) : List D := (xs.drop (HT.sIx xs.length 0 lo)).take (HT.sIx xs.length xs.length hi - HT.sIx xs.length 0 lo)
theorem rps_cut {m : Md} {W : Wd} {ds : List D} {vs : List V} (r : Rps m.K W ds vs) (lo hi : Option Int) : Rps m.K W (cutD ds lo hi) (cutV vs lo hi) := by
  unfold cutD cutV
  rw [r.length]
  exact (r.drop _).take _
def opSl (mu : Bool) (x : D) (lo hi : Option Int) : M D := fun S => match x with
  | .tup xs => some (.tup (cutD xs lo hi), S)
  | .str z => if z.length ≤ sizeLine then some (.str (cutS z lo hi), S) else none
  | x => (listOf S x).bind fun xs => newL mu (cutD xs lo hi) S
def rSl (m : Md) (g : D → Option Int → Option Int → M D) : V → Option Int → Option Int → Hp → VK → Prop := fun x lo hi H Q => ∃ W dx d S', W.H = H ∧ Ok m W ∧ Rp m.K W dx x ∧ g dx lo hi W.S = some (d, S') ∧ Pst m W S' d Q
theorem SlR.split {r' : V → Option Int → Option Int → Hp → VK → Prop} (h : ∀ x lo hi H Q, r' x lo hi H Q → ∃ r, SlR X r ∧ r x lo hi H Q) : SlR X r' := fun pins s σ H x v vl vu lo hi sl Q I rx h1 h2 h3 q => by
  obtain ⟨r, g1, g2⟩ := h x lo hi H Q q
  exact g1 pins s σ H x v vl vu lo hi sl Q I rx h1 h2 h3 g2
theorem o_sl (mu : Bool) : SlR X (rSl (md X) (opSl mu)) := SlR.split fun x lo hi H Q h => by
  obtain ⟨W, dx, d, S', rfl, ok, rx, he, q⟩ := h
  unfold opSl at he
  split at he
  · rename_i xs
    cases he
    obtain ⟨a, vs, rfl, h2, h3⟩ := rx
    refine ⟨_, sl_tupA, a, vs, rfl, h2, fun z => q.val ok ⟨a, vs, rfl, h2, ?_⟩, fun _ p hp => newT_ok ok (rps_cut h3 lo hi) hp q⟩
    have e : cutD xs lo hi = xs := by
      unfold cutD
      rw [h3.length, z.1, z.2, List.drop_zero, Nat.sub_zero, ← h3.length]
      exact List.take_length
    rw [e]; exact h3
  · split at he
    · rename_i hz
      cases he; cases rx
      exact ⟨_, sl_str, _, rfl, hz, q.val ok rfl⟩
    · cases he
  · rw [Option.bind_eq_some_iff] at he
    obtain ⟨xs, h0, he⟩ := he
    obtain ⟨a, vs, rfl, h2, h3⟩ := listOf_ok ok h0 rx
    exact ⟨_, sl_list, a, vs, rfl, .inl (.inl h2), fun p hp => newL_ok he ok (rps_cut h3 lo hi) hp q⟩
def eSl (mu : Bool) (f : ME) (lo hi : MO) : ME := fun ρ S => (f ρ S).bind fun (x, S1) => (lo ρ S1).bind fun (l, S2) => (hi ρ S2).bind fun (h, S3) => opSl mu x l h S3
theorem e_sl {lo hi : Option Expr} {fl fh : MO} {p2 : Pos} (mu : Bool) (he : EvE X e fa) (hl : EvO X lo fl) (hh : EvO X hi fh) : EvE X (.Subscript e (.Slice lo hi none p2) pos) (eSl mu fa fl fh) := PE.imp (pe_slice (o_sl mu) he hl hh) fun σ H Q => by
  rintro ⟨W, ρ, d, S', rfl, ok, hρ, he, q⟩
  unfold eSl at he
  rw [Option.bind_eq_some_iff] at he
  obtain ⟨⟨x, S1⟩, e1, he⟩ := he
  rw [Option.bind_eq_some_iff] at he
  obtain ⟨⟨l, S2⟩, e2, he⟩ := he
  rw [Option.bind_eq_some_iff] at he
  obtain ⟨⟨h, S3⟩, e3, he⟩ := he
  dsimp only at e2 e3 he
  exact ⟨W, ρ, x, S1, rfl, ok, hρ, e1, fun W1 v st r => ⟨W1, ρ, l, S2, rfl, st.ok, st.ext.rσ hρ, by rw [st.st]; exact e2, fun W2 st2 => ⟨W2, ρ, h, S3, rfl, st2.ok, st2.ext.rσ (st.ext.rσ hρ), by rw [st2.st]; exact e3, fun W3 st3 =>
    ⟨W3, x, d, S', rfl, st3.ok, st3.ext _ _ (st2.ext _ _ r), by rw [st3.st]; exact he, q.step (st.trans (st2.trans st3))⟩⟩⟩⟩
end
end Ev
end L2

namespace L2
namespace Ev
open PyProof.Rows PySem.Spec PySem L2
variable [Tb]

section
variable {m : Md} {W W' : Wd} {ρ : EnvD} {σ : St} {d : D} {v : V}
theorem Rσ.set (h : Rσ m.K W ρ σ) (r : Rp m.K W d v) (i : Nat) : Rσ m.K W (ρ.set i (some d)) (σ.set i (some v)) := by
  refine ⟨by rw [List.length_set, List.length_set]; exact h.1, fun j e hj => ?_⟩
  by_cases hij : i = j
  · subst hij
    by_cases hl : i < ρ.length
    · rw [List.getElem?_set_self hl] at hj
      cases hj
      exact ⟨v, by rw [List.getElem?_set_self (by rw [← h.1]; exact hl)], r⟩
    · rw [List.getElem?_eq_none (by rw [List.length_set]; omega)] at hj
      cases hj
  · rw [List.getElem?_set_ne hij] at hj
    obtain ⟨u, h1, h2⟩ := h.2 j e hj
    exact ⟨u, by rw [List.getElem?_set_ne hij]; exact h1, h2⟩
theorem Rσ.none (h : Rσ m.K W ρ σ) (i : Nat) (o : Option V) : Rσ m.K W (ρ.set i .none) (σ.set i o) := by
  refine ⟨by rw [List.length_set, List.length_set]; exact h.1, fun j e hj => ?_⟩
  by_cases hij : i = j
  · subst hij
    by_cases hl : i < ρ.length
    · rw [List.getElem?_set_self hl] at hj
      cases hj
    · rw [List.getElem?_eq_none (by rw [List.length_set]; omega)] at hj
      cases hj
  · rw [List.getElem?_set_ne hij] at hj
    obtain ⟨u, h1, h2⟩ := h.2 j e hj
    exact ⟨u, by rw [List.getElem?_set_ne hij]; exact h1, h2⟩
def wipeD (ρ : EnvD) : List Nat → EnvD
  | [] => ρ
  | v :: vs => (wipeD ρ vs).set v none
theorem Rσ.wipe (h : Rσ m.K W ρ σ) : ∀ vs : List Nat, Rσ m.K W (wipeD ρ vs) (wipe σ vs)
  | [] => h
  | v :: vs => (Rσ.wipe h vs).none v .none
end

/-! ### targets -/
abbrev FG := D → EnvD → Option EnvD
abbrev FGs := List D → EnvD → Option EnvD
/-- only the slots ts are touched -/
def SameBut (ts : List Nat) (σ σ' : St) : Prop := σ'.length = σ.length ∧ ∀ i, i ∉ ts → σ'[i]? = σ[i]?
theorem SameBut.refl {ts : List Nat} {σ : St} : SameBut ts σ σ := ⟨rfl, fun _ _ => rfl⟩
theorem SameBut.set {i : Nat} {σ : St} {o : Option V} : SameBut [i] σ (σ.set i o) := ⟨by rw [List.length_set], fun j hj => by rw [List.getElem?_set_ne (fun z => hj (by simp [z]))]⟩
theorem SameBut.trans {ts us : List Nat} {σ σ1 σ2 : St} (a : SameBut ts σ σ1) (b : SameBut us σ1 σ2) : SameBut (ts ++ us) σ σ2 := ⟨b.1.trans a.1, fun i hi => (b.2 i fun z => hi (List.mem_append_right _ z)).trans (a.2 i fun z => hi (List.mem_append_left _ z))⟩
theorem wipe_get {σ : St} : ∀ {vs : List Nat} {i : Nat}, (wipe σ vs)[i]? = if i ∈ vs then (if i < σ.length then some none else none) else σ[i]?
  | [], i => by simp [wipe]
  | v :: vs, i => by
    rw [wipe, List.getElem?_set]
    by_cases h : v = i
    · subst h
      rw [if_pos rfl, wipe_length]
      simp
    · rw [if_neg h, wipe_get]
      have : i ∈ v :: vs ↔ i ∈ vs := by simp [Ne.symm h]
      simp only [this]
theorem SameBut.wipe {ts vs : List Nat} {σ σ' : St} (h : SameBut ts σ σ') (hs : ∀ i ∈ ts, i ∈ vs) : L2.wipe σ' vs = L2.wipe σ vs := by
  apply List.ext_getElem?
  intro i
  rw [wipe_get, wipe_get, h.1]
  split
  · rfl
  · rename_i hi
    exact h.2 i fun z => hi (hs i z)
section
variable (m : Md)
def tG (f : FG) (ts : List Nat) : TG := fun v σ H Q => ∃ W ρ d ρ', W.H = H ∧ Ok m W ∧ Rσ m.K W ρ σ ∧ Rp m.K W d v ∧ f d ρ = some ρ' ∧ ∀ σ', Rσ m.K W ρ' σ' → SameBut ts σ σ' → Q σ' W.H
def tGs (f : FGs) (ts : List Nat) : TGs := fun vs σ H Q => ∃ W ρ ds ρ', W.H = H ∧ Ok m W ∧ Rσ m.K W ρ σ ∧ Rps m.K W ds vs ∧ f ds ρ = some ρ' ∧ ∀ σ', Rσ m.K W ρ' σ' → SameBut ts σ σ' → Q σ' W.H
end
section
variable {X : Cx} {e a b c : Expr} {es rest : List Expr} {st : Stmt} {body : List Stmt} {pos : Pos} {fa fb fc : ME} {ta tb tc : MT} {f g : MS}
def EvG (X : Cx) (tg : Expr) (f : FG) (ts : List Nat) : Prop := PG X tg (tG (md X) f ts)
def EvGs (X : Cx) (tg : List Expr) (f : FGs) (ts : List Nat) : Prop := PGs X tg (tGs (md X) f ts)
theorem PG.imp {tg : Expr} {t t' : TG} (h : PG X tg t) (i : ∀ v σ H Q, t' v σ H Q → t v σ H Q) : PG X tg t' := ⟨fun pins s σ H v u Q I r q => h.run pins s σ H v u Q I r (i v σ H Q q)⟩
theorem PGs.imp {tg : List Expr} {t t' : TGs} (h : PGs X tg t) (i : ∀ v σ H Q, t' v σ H Q → t v σ H Q) : PGs X tg t' := ⟨fun pins s σ H v u Q I r q => h.run pins s σ H v u Q I r (i v σ H Q q)⟩
def gN (i : Nat) : FG := fun d ρ => some (ρ.set i (some d))
theorem g_name (i : Nat) {x : Str} (hN : X.N.Nodup) (hi : X.N[i]? = some x := by rfl) (hx : Loc X.env.scope x := by first | exact Or.inl rfl | exact Or.inr rfl) (hf : X.fn x = true ∨ X.env.scope.names.lookup x = some .local := by first | exact .inl rfl | exact .inr rfl) : EvG X (.Name x pos) (gN i) [i] := PG.imp (pg_name hN hi hx hf) fun v σ H Q => by
  rintro ⟨W, ρ, d, ρ', rfl, ok, hρ, r, he, q⟩
  cases he
  exact q _ (hρ.set r i) SameBut.set
def gNilD : FGs := fun ds ρ => match ds with
  | [] => some ρ
  | _ => none
def gConsD (f : FG) (g : FGs) : FGs := fun ds ρ => match ds with
  | d :: r => (f d ρ).bind fun ρ1 => g r ρ1
  | _ => none
theorem gs_nil : EvGs X [] gNilD [] := PGs.imp pgs_nil fun v σ H Q => by
  rintro ⟨W, ρ, ds, ρ', rfl, ok, hρ, r, he, q⟩
  cases ds with
  | nil => cases he; cases r; exact ⟨rfl, q σ hρ SameBut.refl⟩
  | cons => cases he
theorem gs_cons {f : FG} {g : FGs} {ts us : List Nat} (h1 : EvG X e f ts) (h2 : EvGs X es g us) (hs : (assignEach (e :: es) X.env).map (·.2) = assign e X.env :: (assignEach es X.env).map (·.2) := by rfl) : EvGs X (e :: es) (gConsD f g) (ts ++ us) := PGs.imp (pgs_cons h1 h2 hs) fun v σ H Q => by
  rintro ⟨W, ρ, ds, ρ', rfl, ok, hρ, r, he, q⟩
  cases ds with
  | nil => cases he
  | cons d ds =>
    obtain ⟨v, vs, rfl, r1, r2⟩ := r
    simp only [gConsD, Option.bind_eq_some_iff] at he
    obtain ⟨ρ1, e1, he⟩ := he
    exact ⟨v, vs, rfl, W, ρ, d, ρ1, rfl, ok, hρ, r1, e1, fun σ' hρ' hs' => ⟨W, ρ1, ds, ρ', rfl, ok, hρ', r2, he, fun σ2 hρ2 hs2 => q σ2 hρ2 (hs'.trans hs2)⟩⟩
def gTupD (n : Nat) (g : FGs) : FG := fun d ρ => match d with
  | .tup ds => if ds.length = n then g ds ρ else none
  | _ => none
theorem g_tup {k : Nat} {g : FGs} {ts : List Nat} (n : Nat) (hc : X.calm = true) (h : EvGs X es g ts) (hn : (assignEach es X.env).length = n := by rfl) (hst : (assignEach es X.env).findIdx? (·.1) = none := by rfl) : EvG X (.Tuple es k pos) (gTupD n g) ts := PG.imp (pg_tup hc h hn hst) fun v σ H Q => by
  rintro ⟨W, ρ, d, ρ', rfl, ok, hρ, r, he, q⟩
  unfold gTupD at he
  split at he
  · split at he
    · rename_i ds hl
      obtain ⟨a, vs, rfl, h1, h2⟩ := r
      exact ⟨a, vs, rfl, h1, by rw [← h2.length]; exact hl, W, ρ, ds, ρ', rfl, ok, hρ, h2, he, q⟩
    · cases he
  · cases he

/-! ### statements -/
def sNx : MS := fun ρ S => some (.nx ρ S)
def sBk : MS := fun ρ S => some (.bk ρ S)
def sCt : MS := fun ρ S => some (.ct ρ S)
def sRet (f : ME) : MS := fun ρ S => (f ρ S).map fun (d, S1) => .rt d S1
def sRetN : MS := fun ρ S => some (.rt .non S)
def sDrop (f : ME) : MS := fun ρ S => (f ρ S).map fun (d, S1) => .nx ρ S1
def sAsg (f : ME) (g : FG) : MS := fun ρ S => (f ρ S).bind fun (d, S1) => (g d ρ).map fun ρ1 => .nx ρ1 S1
def sIf (t : MT) (f g : MS) : MS := fun ρ S => (t ρ S).bind fun (b, S1) => if b = true then f ρ S1 else g ρ S1
/-- what follows a statement -/
def Res.andThen (k : MS) : Res → Option Res
  | .nx ρ S => k ρ S
  | .rt d S => some (.rt d S)
  | .bk ρ S => some (.bk ρ S)
  | .ct ρ S => some (.ct ρ S)
/-- what follows a turn -/
def Res.again (k : MS) : Res → Option Res
  | .nx ρ S => k ρ S
  | .ct ρ S => k ρ S
  | .bk ρ S => some (.nx ρ S)
  | .rt d S => some (.rt d S)
def sSeq (f g : MS) : MS := fun ρ S => (f ρ S).bind fun r => r.andThen g
theorem b_nil : EvB X [] sNx := PSs.imp pss_nil fun E σ H => by
  rintro ⟨W, ρ, r, rfl, ok, hρ, he, q⟩
  cases he
  exact q W σ (Step.refl ok) hρ
theorem b_cons (h1 : EvS X st f) (h2 : EvB X body g) : EvB X (st :: body) (sSeq f g) := PSs.imp (pss_cons h1 h2) fun E σ H => by
  rintro ⟨W, ρ, r, rfl, ok, hρ, he, q⟩
  unfold sSeq at he
  rw [Option.bind_eq_some_iff] at he
  obtain ⟨r1, e1, he⟩ := he
  refine ⟨W, ρ, r1, rfl, ok, hρ, e1, ?_⟩
  cases r1 with
  | nx ρ1 S1 => exact fun W' σ' st hρ' => ⟨W', ρ1, r, rfl, st.ok, hρ', by rw [st.st]; exact he, q.step st⟩
  | rt d S1 => cases he; exact q
  | bk ρ1 S1 => cases he; exact q
  | ct ρ1 S1 => cases he; exact q
theorem b_one (h1 : EvS X st f) : EvB X [st] f := pss_one h1
theorem s_pass : EvS X (.Pass pos) sNx := PS.imp ps_pass fun E σ H => by
  rintro ⟨W, ρ, r, rfl, ok, hρ, he, q⟩
  cases he
  exact q W σ (Step.refl ok) hρ
theorem s_break : EvS X (.Break pos) sBk := PS.imp ps_break fun E σ H => by
  rintro ⟨W, ρ, r, rfl, ok, hρ, he, q⟩
  cases he
  exact q W σ (Step.refl ok) hρ
theorem s_cont : EvS X (.Continue pos) sCt := PS.imp ps_continue fun E σ H => by
  rintro ⟨W, ρ, r, rfl, ok, hρ, he, q⟩
  cases he
  exact q W σ (Step.refl ok) hρ
theorem s_ret (h : EvE X e fa) : EvS X (.Return (some e) pos) (sRet fa) := PS.imp (ps_ret h) fun E σ H => by
  rintro ⟨W, ρ, r, rfl, ok, hρ, he, q⟩
  simp only [sRet, Option.map_eq_some_iff, Prod.exists] at he
  obtain ⟨d, S1, e1, rfl⟩ := he
  exact ⟨W, ρ, d, S1, rfl, ok, hρ, e1, q⟩
theorem s_retN : EvS X (.Return none pos) sRetN := PS.imp ps_retN fun E σ H => by
  rintro ⟨W, ρ, r, rfl, ok, hρ, he, q⟩
  cases he
  exact q W .non (Step.refl ok) rfl
theorem s_expr (h : EvE X e fa) (hs : swapsWith e none pos.line X.env = pure false := by rfl) : EvS X (.Expr e pos) (sDrop fa) := PS.imp (ps_expr h hs) fun E σ H => by
  rintro ⟨W, ρ, r, rfl, ok, hρ, he, q⟩
  simp only [sDrop, Option.map_eq_some_iff, Prod.exists] at he
  obtain ⟨d, S1, e1, rfl⟩ := he
  exact ⟨W, ρ, d, S1, rfl, ok, hρ, e1, fun W' v st _ => q W' σ st (st.ext.rσ hρ)⟩
theorem s_doc {x j pos'} : EvS X (.Expr (.Constant (.str x) j pos) pos') sNx := PS.imp ps_doc fun E σ H => by
  rintro ⟨W, ρ, r, rfl, ok, hρ, he, q⟩
  cases he
  exact q W σ (Step.refl ok) hρ
theorem s_asg {tg : Expr} {g : FG} {ts : List Nat} (h : EvE X e fa) (hg : EvG X tg g ts) (hs : swapsWithSole [tg] e pos.line X.env = pure false := by rfl) (hw : swappedStores [tg] e X.env = pure none := by rfl)
    (h1 : (assignEach [tg] X.env).map (·.2) = [assign tg X.env] := by rfl) : EvS X (.Assign [tg] e pos) (sAsg fa g) := PS.imp (ps_asg h hg hs hw h1) fun E σ H => by
  rintro ⟨W, ρ, r, rfl, ok, hρ, he, q⟩
  simp only [sAsg, Option.bind_eq_some_iff, Option.map_eq_some_iff, Prod.exists] at he
  obtain ⟨d, S1, e1, ρ1, e2, rfl⟩ := he
  exact ⟨W, ρ, d, S1, rfl, ok, hρ, e1, fun W' v st r => ⟨W', ρ, d, ρ1, rfl, st.ok, st.ext.rσ hρ, r, e2, fun σ' hρ' _ => q W' σ' st hρ'⟩⟩
/-- name = value -/
theorem s_set (i : Nat) {x : Str} {pos' : Pos} (hN : X.N.Nodup) (h : EvE X e fa) (hi : X.N[i]? = some x := by rfl) (hx : Loc X.env.scope x := by first | exact Or.inl rfl | exact Or.inr rfl) (hs : swapsWith e (some (.Name x pos')) pos.line X.env = pure false := by rfl) (hf : X.fn x = true ∨ X.env.scope.names.lookup x = some .local := by first | exact .inl rfl | exact .inr rfl) :
    EvS X (.Assign [.Name x pos'] e pos) (sAsg fa (gN i)) := PS.imp (ps_set hN hi hx h hs hf) fun E σ H => by
  rintro ⟨W, ρ, r, rfl, ok, hρ, he, q⟩
  simp only [sAsg, gN, Option.bind_eq_some_iff, Option.map_eq_some_iff, Prod.exists] at he
  obtain ⟨d, S1, e1, ρ1, e2, rfl⟩ := he
  cases e2
  exact ⟨W, ρ, d, S1, rfl, ok, hρ, e1, fun W' v st r => q W' _ st ((st.ext.rσ hρ).set r i)⟩
theorem s_if {c : Expr} {a b : List Stmt} (hc : EvT X c ta) (ha : EvB X a f) (hb : EvB X b g) : EvS X (.If c a b pos) (sIf ta f g) := PS.imp (ps_if hc ha hb) fun E σ H => by
  rintro ⟨W, ρ, r, rfl, ok, hρ, he, q⟩
  unfold sIf at he
  rw [Option.bind_eq_some_iff] at he
  obtain ⟨⟨x, S1⟩, e1, he⟩ := he
  refine ⟨W, ρ, x, S1, rfl, ok, hρ, e1, fun W' st => ?_⟩
  dsimp only at he
  split at he
  · rename_i hx; rw [if_pos hx]
    exact ⟨W', ρ, r, rfl, st.ok, st.ext.rσ hρ, by rw [st.st]; exact he, q.step st⟩
  · rename_i hx; rw [if_neg hx]
    exact ⟨W', ρ, r, rfl, st.ok, st.ext.rσ hρ, by rw [st.st]; exact he, q.step st⟩
/-- a, b = x, y with local names: stored from the right -/
def sPar (i j : Nat) (f : MA) : MS := fun ρ S => (f ρ S).bind fun (ds, S1) => match ds with
  | [x, y] => some (.nx ((ρ.set i (some x)).set j (some y)) S1)
  | _ => none
theorem s_par (i j : Nat) {x y : Str} {a b : Expr} {fs : MA} {px py pt : Pos} {kt k2 pt2} (hc : X.calm = true) (hN : X.N.Nodup) (h : EvA X [a, b] fs) (hi : X.N[i]? = some x := by rfl) (hj : X.N[j]? = some y := by rfl) (hij : i ≠ j := by decide)
    (hx : X.env.scope.names.lookup x = some .local := by rfl) (hy : X.env.scope.names.lookup y = some .local := by rfl)
    (hw : swappedStores [.Tuple [.Name x px, .Name y py] kt pt] (.Tuple [a, b] k2 pt2) X.env = pure (some [x, y]) := by rfl)
    (hs : swapsWithSole [.Tuple [.Name x px, .Name y py] kt pt] (.Tuple [a, b] k2 pt2) pos.line X.env = pure false := by rfl) :
    EvS X (.Assign [.Tuple [.Name x px, .Name y py] kt pt] (.Tuple [a, b] k2 pt2) pos) (sPar i j fs) := PS.imp (ps_par hc hN hi hj hij hx hy h hw hs) fun E σ H => by
  rintro ⟨W, ρ, r, rfl, ok, hρ, he, q⟩
  unfold sPar at he
  rw [Option.bind_eq_some_iff] at he
  obtain ⟨⟨ds, S1⟩, e1, he⟩ := he
  dsimp only at he
  split at he
  · cases he
    refine ⟨W, ρ, _, S1, rfl, ok, hρ, e1, fun W' vs st r => ?_⟩
    obtain ⟨v, r', rfl, r1, r2⟩ := r
    obtain ⟨w, r'', rfl, r3, r4⟩ := r2
    have r4 : r'' = [] := r4
    subst r4
    exact ⟨v, w, rfl, q W' _ st (((st.ext.rσ hρ).set r1 i).set r3 j)⟩
  · cases he

/-! ### while -/
def whileF (c : MT) (b : MS) : Nat → EnvD → Store → Option Res
  | 0, _, _ => none
  | n + 1, ρ, S => (c ρ S).bind fun (k, S1) => if k = true then (b ρ S1).bind fun r => r.again (whileF c b n)
    else some (.nx ρ S1)
theorem whileF_mono (c : MT) (b : MS) : ∀ (n : Nat) (ρ : EnvD) (S : Store) (r : Res), whileF c b n ρ S = some r → whileF c b (n + 1) ρ S = some r
  | 0, _, _, _, h => by cases h
  | n + 1, ρ, S, r, h => by
    rw [whileF, Option.bind_eq_some_iff] at h
    obtain ⟨⟨k, S1⟩, e1, h⟩ := h
    rw [whileF, e1, Option.bind_some]
    dsimp only at h ⊢
    split at h
    · rename_i hk
      rw [if_pos hk]
      rw [Option.bind_eq_some_iff] at h
      obtain ⟨r1, e2, h⟩ := h
      rw [e2, Option.bind_some]
      cases r1 with
      | nx ρ2 S2 => exact whileF_mono c b n ρ2 S2 r h
      | ct ρ2 S2 => exact whileF_mono c b n ρ2 S2 r h
      | bk ρ2 S2 => exact h
      | rt d S2 => exact h
    · rename_i hk
      rw [if_neg hk]; exact h
theorem whileF_le (c : MT) (b : MS) {n k : Nat} (hk : n ≤ k) {ρ : EnvD} {S : Store} {r : Res} (h : whileF c b n ρ S = some r) : whileF c b k ρ S = some r := by
  induction hk with
  | refl => exact h
  | step _ ih => exact whileF_mono c b _ ρ S r ih
open Classical in
/-- the while statement, where it ends -/
noncomputable def sWhile (c : MT) (b : MS) : MS := fun ρ S => if h : ∃ r, ∃ n, whileF c b n ρ S = some r then some h.choose else none
theorem sWhile_of {c : MT} {b : MS} {n : Nat} {ρ : EnvD} {S : Store} {r : Res} (h : whileF c b n ρ S = some r) : sWhile c b ρ S = some r := by
  have hx : ∃ r, ∃ n, whileF c b n ρ S = some r := ⟨r, n, h⟩
  unfold sWhile
  rw [dif_pos hx]
  obtain ⟨k, hk⟩ := hx.choose_spec
  have h1 := whileF_le c b (Nat.le_max_left n k) h
  have h2 := whileF_le c b (Nat.le_max_right n k) hk
  rw [h1] at h2
  exact h2.symm
theorem sWhile_run {c : MT} {b : MS} {ρ : EnvD} {S : Store} {r : Res} (h : sWhile c b ρ S = some r) : ∃ n, whileF c b n ρ S = some r := by
  unfold sWhile at h
  split at h
  · rename_i hx
    cases h
    exact hx.choose_spec
  · cases h
/-- one turn -/
theorem sWhile_eq {c : MT} {b : MS} {ρ : EnvD} {S S1 : Store} {k : Bool} (hc : c ρ S = some (k, S1)) : sWhile c b ρ S = if k = true then (b ρ S1).bind fun r => r.again (sWhile c b)
    else some (.nx ρ S1) := by
  by_cases hk : k = true
  · rw [if_pos hk]
    cases hb : b ρ S1 with
    | none =>
      rw [Option.bind_none]
      cases q : sWhile c b ρ S with
      | none => rfl
      | some r =>
        obtain ⟨n, hn⟩ := sWhile_run q
        cases n with
        | zero => cases hn
        | succ n => rw [whileF, hc, Option.bind_some] at hn; dsimp only at hn; rw [if_pos hk, hb] at hn; cases hn
    | some r1 =>
      rw [Option.bind_some]
      have step : ∀ n, whileF c b (n + 1) ρ S = r1.again (whileF c b n) := fun n => by rw [whileF, hc, Option.bind_some]; dsimp only; rw [if_pos hk, hb, Option.bind_some]
      have both : ∀ ρ2 S2, (∀ n, whileF c b (n + 1) ρ S = whileF c b n ρ2 S2) → sWhile c b ρ S = sWhile c b ρ2 S2 := fun ρ2 S2 st => by
        cases q : sWhile c b ρ2 S2 with
        | some r => obtain ⟨n, hn⟩ := sWhile_run q; exact sWhile_of (n := n + 1) (by rw [st]; exact hn)
        | none =>
          cases q2 : sWhile c b ρ S with
          | none => rfl
          | some r =>
            obtain ⟨n, hn⟩ := sWhile_run q2
            cases n with
            | zero => cases hn
            | succ n => rw [st] at hn; rw [sWhile_of hn] at q; cases q
      cases r1 with
      | nx ρ2 S2 => exact both ρ2 S2 step
      | ct ρ2 S2 => exact both ρ2 S2 step
      | bk ρ2 S2 => exact sWhile_of (n := 1) (step 0)
      | rt d S2 => exact sWhile_of (n := 1) (step 0)
  · rw [if_neg hk]
    exact sWhile_of (n := 1) (by rw [whileF, hc, Option.bind_some]; dsimp only; rw [if_neg hk])
theorem s_while {c : Expr} (hp : PassesOwn (model X.prog X.w) X.A X.env X.xe) (hc : EvT X c ta) (hb : EvB X body f) : EvS X (.While c body [] pos) (sWhile ta f) := PS.imp (ps_while hp hc hb) fun E σ H => by
  rintro ⟨W, ρ, r, rfl, ok, hρ, he, q⟩
  obtain ⟨n, hn⟩ := sWhile_run he
  refine ⟨fun k σ1 H1 => ∃ W1 ρ1, W1.H = H1 ∧ Ok (md X) W1 ∧ Rσ X.K W1 ρ1 σ1 ∧ whileF ta f k ρ1 W1.S = some r ∧ PstS (md X) W1 E r, ⟨n, W, ρ, rfl, ok, hρ, hn, q⟩, ?_⟩
  rintro k σ1 _ ⟨W1, ρ1, rfl, ok1, hρ1, h1, q1⟩
  cases k with
  | zero => cases h1
  | succ k =>
    rw [whileF, Option.bind_eq_some_iff] at h1
    obtain ⟨⟨x, S1⟩, e1, h1⟩ := h1
    refine ⟨W1, ρ1, x, S1, rfl, ok1, hρ1, e1, fun W2 st => ?_⟩
    dsimp only at h1
    split at h1
    · rename_i hx
      rw [if_pos hx]
      rw [Option.bind_eq_some_iff] at h1
      obtain ⟨r1, e2, h1⟩ := h1
      refine ⟨fun σ' H' => ∃ m', m' < k + 1 ∧ ∃ W1 ρ1, W1.H = H' ∧ Ok (md X) W1 ∧ Rσ X.K W1 ρ1 σ' ∧ whileF ta f m' ρ1 W1.S = some r ∧ PstS (md X) W1 E r, fun _ _ h => h, ?_⟩
      refine ⟨W2, ρ1, r1, rfl, st.ok, st.ext.rσ hρ1, by rw [st.st]; exact e2, ?_⟩
      cases r1 with
      | nx ρ2 S2 => exact fun W3 σ3 st3 hρ3 => ⟨k, Nat.lt_succ_self k, W3, ρ2, rfl, st3.ok, hρ3, by rw [st3.st]; exact h1, (q1.step st).step st3⟩
      | ct ρ2 S2 => exact fun W3 σ3 st3 hρ3 => ⟨k, Nat.lt_succ_self k, W3, ρ2, rfl, st3.ok, hρ3, by rw [st3.st]; exact h1, (q1.step st).step st3⟩
      | bk ρ2 S2 => cases h1; exact q1.step st
      | rt d S2 => cases h1; exact q1.step st
    · rename_i hx
      rw [if_neg hx]
      cases h1
      exact q1 W2 σ1 st (st.ext.rσ hρ1)

/-! ### what is walked -/
/-- the iterator J yields ds while the store is as g says -/
structure Walk (m : Md) (J : It) (ds : List D) (g : Store → Bool) (W : Wd) : Prop where
  go : ∀ W1 (i : Nat) d, Ext m.K W W1 → (∀ a ∈ W.hid, W1.H a = W.H a) → Ok m W1 → g W1.S = true → ds[i]? = some d → J.go i W1.H ∧ ∀ x H', J.yld i W1.H x H' → ∃ W2, W2.H = H' ∧ Stp m W1 W1.S W2 ∧ Rp m.K W2 d x
  stop : ∀ W1, Ext m.K W W1 → (∀ a ∈ W.hid, W1.H a = W.H a) → Ok m W1 → g W1.S = true → J.stop ds.length W1.H
abbrev MI := EnvD → M (List D × (Store → Bool))
def tI (m : Md) (f : MI) : TI := fun σ H R => ∃ W ρ ds g S', W.H = H ∧ Ok m W ∧ Rσ m.K W ρ σ ∧ f ρ W.S = some ((ds, g), S') ∧ ∀ W' J, Stp m W S' W' → Walk m J ds g W' → R J W'.H
def EvI (X : Cx) (tg it : Expr) (f : MI) : Prop := PI X tg it (tI (md X) f)
theorem PI.imp {tg it : Expr} {t t' : TI} (h : PI X tg it t) (i : ∀ σ H R, t' σ H R → t σ H R) : PI X tg it t' := ⟨fun pins s σ H R I q => h.run pins s σ H R I (i σ H R q)⟩
def gYes : Store → Bool := fun _ => true
/-- a list's guard: a place still holds it -/
def gOf : D → List D → Store → Bool
  | .ref n, xs, S => match S[n]? with
    | some (.lst ys) => D.beqs xs ys
    | _ => false
  | _, _, _ => true
def iLst (f : ME) : MI := fun ρ S => (f ρ S).bind fun (x, S1) => (readOf S1 x).map fun xs => ((xs, gOf x xs), S1)
def iTupD (f : ME) : MI := fun ρ S => (f ρ S).bind fun (x, S1) => match x with
  | .tup xs => some ((xs, gYes), S1)
  | _ => none
theorem readOf_later {m : Md} {W W1 : Wd} {x : D} {xs : List D} {v : V} (h : readOf W.S x = some xs) (r : Rp m.K W1 x v) (ok : Ok m W1) (g : gOf x xs W1.S = true) : ∃ a vs, v = .ref a ∧ SqL m.K W1.H a vs ∧ Rps m.K W1 xs vs := by
  refine readOf_ok ok ?_ r
  cases x with
  | ref n =>
    simp only [gOf] at g
    simp only [readOf, listOf] at h ⊢
    split at g
    · rename_i ys e
      have e2 := (D.beqs_iff xs ys).mp g
      first
        | (rw [e]; rw [e2])
        | (rw [e2])
    · cases g
  | _ => exact h
theorem i_list {tg : Expr} (h : EvE X e fa) : EvI X tg e (iLst fa) := PI.imp (pi_list h) fun σ H R => by
  rintro ⟨W, ρ, ds, g, S', rfl, ok, hρ, he, q⟩
  unfold iLst at he
  rw [Option.bind_eq_some_iff] at he
  obtain ⟨⟨x, S1⟩, e1, he⟩ := he
  simp only [Option.map_eq_some_iff, Prod.mk.injEq] at he
  obtain ⟨xs, e2, ⟨rfl, rfl⟩, rfl⟩ := he
  refine ⟨W, ρ, x, S1, rfl, ok, hρ, e1, fun W' v st r => ?_⟩
  obtain ⟨a, vs, rfl, h1, h2⟩ := readOf_ok st.ok (by rw [st.st]; exact e2) r
  refine ⟨a, rfl, ⟨vs, h1⟩, q W' _ st ⟨fun W1 i d e3 _ ok1 g1 hd => ?_, fun W1 e3 _ ok1 g1 => ?_⟩⟩
  · obtain ⟨a', vs', ea, h3, h4⟩ := readOf_later (by rw [st.st]; exact e2) (e3 _ _ r) ok1 g1
    cases ea
    obtain ⟨v, h5, h6⟩ := h4.get hd
    refine ⟨⟨vs', v, h3, h5⟩, fun x H' hy => ?_⟩
    obtain ⟨rfl, hy⟩ := hy
    have := hy vs' h3
    rw [h5] at this
    cases this
    exact ⟨W1, rfl, Step.refl ok1, h6⟩
  · obtain ⟨a', vs', ea, h3, h4⟩ := readOf_later (by rw [st.st]; exact e2) (e3 _ _ r) ok1 g1
    cases ea
    exact ⟨vs', h3, by rw [← h4.length]; exact Nat.le_refl _⟩
theorem i_tup {tg : Expr} (h : EvE X e fa) : EvI X tg e (iTupD fa) := PI.imp (pi_tup h) fun σ H R => by
  rintro ⟨W, ρ, ds, g, S', rfl, ok, hρ, he, q⟩
  unfold iTupD at he
  rw [Option.bind_eq_some_iff] at he
  obtain ⟨⟨x, S1⟩, e1, he⟩ := he
  dsimp only at he
  split at he
  · rename_i xs
    cases he
    refine ⟨W, ρ, .tup ds, _, rfl, ok, hρ, e1, fun W' v st r => ?_⟩
    obtain ⟨a, vs, rfl, h1, h2⟩ := id r
    refine ⟨a, rfl, ⟨vs, h1⟩, q W' _ st ⟨fun W1 i d e3 _ ok1 g1 hd => ?_, fun W1 e3 _ ok1 g1 => ?_⟩⟩
    · obtain ⟨a', vs', ea, h3, h4⟩ := e3 _ _ r
      cases ea
      obtain ⟨v, h5, h6⟩ := h4.get hd
      refine ⟨⟨vs', v, h3, h5⟩, fun x H' hy => ?_⟩
      obtain ⟨rfl, hy⟩ := hy
      have := hy vs' h3
      rw [h5] at this
      cases this
      exact ⟨W1, rfl, Step.refl ok1, h6⟩
    · obtain ⟨a', vs', ea, h3, h4⟩ := e3 _ _ r
      cases ea
      exact ⟨vs', h3, by rw [← h4.length]; exact Nat.le_refl _⟩
  · cases he
/-- range -/
def rangeD (lo : Int) (n : Nat) : List D := (List.range n).map fun i => .int (lo + (i : Nat))
theorem rangeD_get {lo : Int} {n i : Nat} {d : D} (h : (rangeD lo n)[i]? = some d) : i < n ∧ d = .int (lo + (i : Nat)) := by
  unfold rangeD at h
  rw [List.getElem?_map] at h
  by_cases hi : i < n
  · rw [List.getElem?_range hi] at h
    exact ⟨hi, (Option.some.inj h).symm⟩
  · rw [List.getElem?_eq_none (by rw [List.length_range]; omega)] at h
    cases h
theorem walk_range {m : Md} {W : Wd} (lo : Int) (n : Nat) : Walk m (Itr lo n) (rangeD lo n) gYes W := ⟨fun W1 i d e _ ok g hd => by
    obtain ⟨h1, rfl⟩ := rangeD_get hd
    refine ⟨h1, fun x H' hy => ?_⟩
    obtain ⟨rfl, rfl⟩ := hy
    exact ⟨W1, rfl, Step.refl ok, rfl⟩, fun W1 e _ ok g => by
    show n ≤ (rangeD lo n).length
    unfold rangeD; rw [List.length_map, List.length_range]; exact Nat.le_refl _⟩
def ok62 (i : Int) : Bool := decide (-(2 ^ 62) ≤ i ∧ i < 2 ^ 62)
def iRng1D (f : MA) : MI := fun ρ S => (f ρ S).bind fun (xs, S1) => match xs with
  | [.int j] => if ok62 j then some ((rangeD 0 j.toNat, gYes), S1) else none
  | _ => none
theorem rps_one {m : Md} {W : Wd} {d : D} {vs : List V} (r : Rps m.K W [d] vs) : ∃ v, vs = [v] ∧ Rp m.K W d v := by
  obtain ⟨v, t, rfl, r1, r2⟩ := r
  have r2 : t = [] := r2
  subst r2
  exact ⟨v, rfl, r1⟩
theorem rps_two {m : Md} {W : Wd} {d e : D} {vs : List V} (r : Rps m.K W [d, e] vs) : ∃ v u, vs = [v, u] ∧ Rp m.K W d v ∧ Rp m.K W e u := by
  obtain ⟨v, t, rfl, r1, r2⟩ := r
  obtain ⟨u, rfl, r3⟩ := rps_one r2
  exact ⟨v, u, rfl, r1, r3⟩
theorem rps_three {m : Md} {W : Wd} {d e f : D} {vs : List V} (r : Rps m.K W [d, e, f] vs) : ∃ v u t, vs = [v, u, t] ∧ Rp m.K W d v ∧ Rp m.K W e u ∧ Rp m.K W f t := by
  obtain ⟨v, t, rfl, r1, r2⟩ := r
  obtain ⟨u, w, rfl, r3, r4⟩ := rps_two r2
  exact ⟨v, u, w, rfl, r1, r3, r4⟩
theorem i_range1 {tg : Expr} {p : Pos} {fs : MA} (hm : X.mg "range" = none) (h : EvA X [a] fs) (hg : Gl X "range" := by rfl) (hs : starEach [a] X.env = [(false, eval a X.env)] := by rfl) : EvI X tg (.Call (.Name "range" p) [a] [] pos) (iRng1D fs) := PI.imp (pi_range1 hg hm h hs) fun σ H R => by
  rintro ⟨W, ρ, ds, g, S', rfl, ok, hρ, he, q⟩
  unfold iRng1D at he
  rw [Option.bind_eq_some_iff] at he
  obtain ⟨⟨xs, S1⟩, e1, he⟩ := he
  dsimp only at he
  split at he
  · split at he
    · rename_i j hj
      cases he
      refine ⟨W, ρ, _, _, rfl, ok, hρ, e1, fun W' vs st r => ?_⟩
      obtain ⟨v, rfl, r1⟩ := rps_one r
      cases r1
      have := of_decide_eq_true hj
      exact ⟨j, rfl, this.1, this.2, q W' _ st (walk_range 0 j.toNat)⟩
    · cases he
  · cases he
def iRng2D (f : MA) : MI := fun ρ S => (f ρ S).bind fun (xs, S1) => match xs with
  | [.int i, .int j] => if ok62 i && ok62 j then some ((rangeD i (j - i).toNat, gYes), S1) else none
  | _ => none
theorem i_range2 {tg : Expr} {p : Pos} {fs : MA} (hm : X.mg "range" = none) (h : EvA X [a, b] fs) (hg : Gl X "range" := by rfl) (hs : starEach [a, b] X.env = [(false, eval a X.env), (false, eval b X.env)] := by rfl) (hs2 : starEach [b] X.env = [(false, eval b X.env)] := by rfl) : EvI X tg (.Call (.Name "range" p) [a, b] [] pos) (iRng2D fs) := PI.imp (pi_range2 hg hm h hs hs2) fun σ H R => by
  rintro ⟨W, ρ, ds, g, S', rfl, ok, hρ, he, q⟩
  unfold iRng2D at he
  rw [Option.bind_eq_some_iff] at he
  obtain ⟨⟨xs, S1⟩, e1, he⟩ := he
  dsimp only at he
  split at he
  · split at he
    · rename_i i j hj
      cases he
      refine ⟨W, ρ, _, _, rfl, ok, hρ, e1, fun W' vs st r => ?_⟩
      obtain ⟨v, u, rfl, r1, r2⟩ := rps_two r
      cases r1; cases r2
      rw [Bool.and_eq_true] at hj
      have h1 := of_decide_eq_true hj.1
      have h2 := of_decide_eq_true hj.2
      exact ⟨i, j, rfl, ⟨h1.1, h1.2, h2.1, h2.2⟩, q W' _ st (walk_range i _)⟩
    · cases he
  · cases he

/-! ### for -/
def forL (g : Store → Bool) (tg : FG) (body : MS) : List D → EnvD → Store → Option Res
  | [], ρ, S => if g S = true then some (.nx ρ S) else none
  | d :: ds, ρ, S => if g S = true then (tg d ρ).bind fun ρ1 => (body ρ1 S).bind fun r => r.again (forL g tg body ds)
    else none
def sFor (it : MI) (tg : FG) (body : MS) : MS := fun ρ S => (it ρ S).bind fun ((ds, g), S1) => forL g tg body ds ρ S1
theorem s_for {tg iter : Expr} {it : MI} {g : FG} {ts : List Nat} (hp : PassesOwn (model X.prog X.w) X.A X.env X.xe) (hc : X.calm = true) (hi : EvI X tg iter it) (hg : EvG X tg g ts) (hb : EvB X body f)
    (hs : ∀ x, foldedSetIterable iter X.env x = pure x := by intro _; rfl) : EvS X (.For tg iter body [] pos) (sFor it g f) := PS.imp (ps_for hp hc hi hg hb hs) fun E σ H => by
  rintro ⟨W, ρ, r, rfl, ok, hρ, he, q⟩
  unfold sFor at he
  rw [Option.bind_eq_some_iff] at he
  obtain ⟨⟨⟨ds, gd⟩, S1⟩, e1, he⟩ := he
  dsimp only at he
  refine ⟨W, ρ, ds, gd, S1, rfl, ok, hρ, e1, fun W' J st wk => ?_⟩
  refine ⟨fun i k σ1 H1 => i + k = ds.length ∧ ∃ W1 ρ1, W1.H = H1 ∧ Ok (md X) W1 ∧ Ext X.K W' W1 ∧ (W1.hid = W'.hid ∧ ∀ a ∈ W'.hid, W1.H a = W'.H a) ∧ Rσ X.K W1 ρ1 σ1 ∧ forL gd g f (ds.drop i) ρ1 W1.S = some r ∧ PstS (md X) W1 E r,
    ⟨ds.length, by omega, W', ρ, rfl, st.ok, Ext.refl, ⟨rfl, fun _ _ => rfl⟩, st.ext.rσ hρ, by rw [List.drop_zero, st.st]; exact he, q.step st⟩, ?_⟩
  rintro i k σ1 _ ⟨hik, W1, ρ1, rfl, ok1, ex1, ⟨hd1, kp1⟩, hρ1, h1, q1⟩
  by_cases hi : i < ds.length
  · right
    have hd : ds[i]? = some ds[i] := List.getElem?_eq_getElem hi
    rw [List.drop_eq_getElem_cons hi, forL] at h1
    split at h1
    · rename_i hgd
      obtain ⟨go, yl⟩ := wk.go W1 i ds[i] ex1 kp1 ok1 hgd hd
      rw [Option.bind_eq_some_iff] at h1
      obtain ⟨ρ2, e2, h1⟩ := h1
      rw [Option.bind_eq_some_iff] at h1
      obtain ⟨r1, e3, h1⟩ := h1
      refine ⟨go, fun σ' H' => ∃ k', k' < k ∧ i + 1 + k' = ds.length ∧ ∃ W1 ρ1, W1.H = H' ∧ Ok (md X) W1 ∧ Ext X.K W' W1 ∧ (W1.hid = W'.hid ∧ ∀ a ∈ W'.hid, W1.H a = W'.H a) ∧ Rσ X.K W1 ρ1 σ' ∧ forL gd g f (ds.drop (i + 1)) ρ1 W1.S = some r ∧ PstS (md X) W1 E r, fun σ' H' h => h, fun x H' hy => ?_⟩
      obtain ⟨W2, rfl, st2, rx⟩ := yl x H' hy
      refine ⟨W2, ρ1, ds[i], ρ2, rfl, st2.ok, st2.ext.rσ hρ1, rx, e2, fun σ2 hρ2 _ => ⟨W2, ρ2, r1, rfl, st2.ok, hρ2, by rw [st2.st]; exact e3, ?_⟩⟩
      have ex2 := ex1.trans st2.ext
      have q2 := q1.step st2
      have kp : ∀ {W3 : Wd} {S3 : Store}, Stp (md X) W2 S3 W3 → W3.hid = W'.hid ∧ ∀ a ∈ W'.hid, W3.H a = W'.H a := fun {W3 S3} st3 => ⟨(st2.trans st3).hid.trans hd1, fun a ha => ((st2.trans st3).keep a (by rw [hd1]; exact ha)).trans (kp1 a ha)⟩
      cases r1 with
      | nx ρ3 S3 => exact fun W3 σ3 st3 hρ3 => ⟨k - 1, by omega, by omega, W3, ρ3, rfl, st3.ok, ex2.trans st3.ext, kp st3, hρ3, by rw [st3.st]; exact h1, q2.step st3⟩
      | ct ρ3 S3 => exact fun W3 σ3 st3 hρ3 => ⟨k - 1, by omega, by omega, W3, ρ3, rfl, st3.ok, ex2.trans st3.ext, kp st3, hρ3, by rw [st3.st]; exact h1, q2.step st3⟩
      | bk ρ3 S3 => cases h1; exact q2
      | rt d S3 => cases h1; exact q2
    · cases h1
  · left
    have e : i = ds.length := by omega
    subst e
    rw [List.drop_length, forL] at h1
    split at h1
    · rename_i hgd
      cases h1
      exact ⟨wk.stop W1 ex1 kp1 ok1 hgd, q1 W1 σ1 (Step.refl ok1) hρ1⟩
    · cases h1

/-! ### comprehensions -/
def EvTs (X : Cx) (ifs : List Expr) (f : MT) : Prop := PTs X ifs (tT (md X) f)
def tTrue : MT := fun _ S => some (true, S)
theorem PTs.imp {ifs : List Expr} {t t' : TT} (h : PTs X ifs t) (i : ∀ σ H Q, t' σ H Q → t σ H Q) : PTs X ifs t' := by
  refine ⟨?_⟩
  intros
  apply h.run <;> first | assumption | (apply i; assumption)
theorem ts_nil : EvTs X [] tTrue := PTs.imp pts_nil fun σ H Q => by
  rintro ⟨W, ρ, b, S', rfl, ok, hρ, he, q⟩
  cases he
  exact q W (Step.refl ok)
theorem ts_one (h : EvT X e ta) : EvTs X [e] ta := pts_one h
def compL (gd : Store → Bool) (vs : List Nat) (tg : FG) (t : MT) (f : ME) : List D → EnvD → Store → List D → Option (List D × Store)
  | [], ρ, S, acc => if gd S = true then some (acc, S) else none
  | d :: ds, ρ, S, acc => if gd S = true then (tg d (wipeD ρ vs)).bind fun ρ1 => (t ρ1 S).bind fun (b, S1) => if b = true then (f ρ1 S1).bind fun (y, S2) => if acc.length < sizeLine then compL gd vs tg t f ds ρ S2 (acc ++ [y]) else none
      else compL gd vs tg t f ds ρ S1 acc
    else none
def eLc (mu : Bool) (vs : List Nat) (it : MI) (tg : FG) (t : MT) (f : ME) : ME := fun ρ S => (it ρ S).bind fun ((ds, gd), S1) => (compL gd vs tg t f ds ρ S1 []).bind fun (ys, S2) => newL mu ys S2
/-- the list that was hidden is out -/
theorem newL_hid {m : Md} {mu : Bool} {W W1 : Wd} {ys : List D} {vs : List V} {p : Addr} {d : D} {S' : Store} {Q : VK} (h : newL mu ys W1.S = some (d, S')) (ok : Ok m W1) (hh : W1.hid = p :: W.hid) (hp : W1.H p = some (.lst vs)) (hl : p ∉ W.hid) (r : Rps m.K W1 ys vs) (ex : Ext m.K W W1)
    (keep : ∀ a ∈ W.hid, W1.H a = W.H a) (q : Pst m W S' d Q) : Q (.ref p) W1.H := by
  unfold newL at h
  split at h
  · split at h
    · obtain ⟨rfl, rfl⟩ : D.ref W1.S.length = d ∧ W1.S ++ [Cell.lst ys] = S' := by
        have := Option.some.inj h
        exact ⟨congrArg Prod.fst this, congrArg Prod.snd this⟩
      obtain ⟨ok2, ex2⟩ := ok.unhideAt hh hl (.lst ys) (fun z => nomatch z) fun e => ⟨vs, hp, e.rps r⟩
      refine q { W1 with μ := W1.μ ++ [p], S := W1.S ++ [Cell.lst ys], hid := W.hid } (.ref p) ⟨ex.trans ex2, ok2, rfl, rfl, keep⟩ ⟨p, rfl, ?_⟩
      show (W1.μ ++ [p])[W1.S.length]? = some p
      rw [← ok.len, List.getElem?_append_right (Nat.le_refl _), Nat.sub_self]; rfl
    · obtain ⟨rfl, rfl⟩ : D.lst ys = d ∧ W1.S = S' := by
        have := Option.some.inj h
        exact ⟨congrArg Prod.fst this, congrArg Prod.snd this⟩
      obtain ⟨ok2, ex2⟩ := ok.unhide hh
      refine q { W1 with hid := W.hid } (.ref p) ⟨ex.trans ex2, ok2, rfl, rfl, keep⟩ ⟨p, vs, rfl, hp, ⟨hl, fun n c h1 h2 => ?_⟩, ex2.rps r⟩
      by_cases hc : c = .dead
      · exact hc
      · exact absurd (by rw [hh]; exact List.mem_cons_self) (ok.apart n p c h1 h2 hc)
  · cases h
theorem lc_go {own : List (Str × Nat)} {it : MI} {g : FG} {ts : List Nat} {t : MT} {fe : ME} {mu : Bool} (hts : ∀ i ∈ ts, i ∈ own.map (·.2)) (σ : St) (H : Hp) (Q : VK) : tE (md X) (eLc mu (own.map (·.2)) it g t fe) σ H Q → tLc (tI (md X) it) (tG (md X) g ts) (tT (md X) t) (tE (md X) fe) (own.map (·.2)) σ H Q := by
  rintro ⟨W, ρ, d, S', rfl, okW, hρ, hv, q⟩
  unfold eLc at hv
  rw [Option.bind_eq_some_iff] at hv
  obtain ⟨⟨⟨ds, gd⟩, S1⟩, e1, hv⟩ := hv
  rw [Option.bind_eq_some_iff] at hv
  obtain ⟨⟨ys, S2⟩, e2, e3⟩ := hv
  dsimp only at e2 e3
  refine ⟨W, ρ, ds, gd, S1, rfl, okW, hρ, e1, fun W1 J st wk p hp => ?_⟩
  obtain ⟨okh, exh⟩ := st.ok.hide hp (.lst [])
  refine ⟨fun i k H1 => i + k = ds.length ∧ ∃ Wi acc us, Wi.H = H1 ∧ Ok (md X) Wi ∧ Ext X.K W1 Wi ∧ Wi.hid = p :: W1.hid ∧ (∀ a ∈ W1.hid, Wi.H a = W1.H a) ∧ Wi.H p = some (.lst us) ∧ Rps X.K Wi acc us ∧ compL gd (own.map (·.2)) g t fe (ds.drop i) ρ Wi.S acc = some (ys, S2),
    ⟨ds.length, by omega, _, [], [], rfl, okh, exh, rfl, fun a ha => upd_ne (fun z => by subst z; exact st.ok.hid a ha hp), upd_same, rfl, by rw [List.drop_zero]; show compL _ _ _ _ _ ds ρ W1.S [] = _; rw [st.st]; exact e2⟩, ?_⟩
  rintro i k _ ⟨hik, Wi, acc, us, rfl, oki, exi, hidi, keepi, hpi, ri, hv⟩
  by_cases hi : i < ds.length
  · right
    have hd : ds[i]? = some ds[i] := List.getElem?_eq_getElem hi
    rw [List.drop_eq_getElem_cons hi, compL] at hv
    split at hv
    · rename_i hgd
      obtain ⟨go, yl⟩ := wk.go Wi i ds[i] exi keepi oki hgd hd
      rw [Option.bind_eq_some_iff] at hv
      obtain ⟨ρ2, e4, hv⟩ := hv
      rw [Option.bind_eq_some_iff] at hv
      obtain ⟨⟨b, S3⟩, e5, hv⟩ := hv
      refine ⟨go, fun H' => ∃ k', k' < k ∧ i + 1 + k' = ds.length ∧ ∃ Wi acc us, Wi.H = H' ∧ Ok (md X) Wi ∧ Ext X.K W1 Wi ∧ Wi.hid = p :: W1.hid ∧ (∀ a ∈ W1.hid, Wi.H a = W1.H a) ∧ Wi.H p = some (.lst us) ∧ Rps X.K Wi acc us ∧ compL gd (own.map (·.2)) g t fe (ds.drop (i + 1)) ρ Wi.S acc = some (ys, S2), fun _ h => h, fun x H' hy => ?_⟩
      obtain ⟨W2, rfl, st2, rx⟩ := yl x H' hy
      have hρ2 := ((st2.ext.rσ (exi.rσ (st.ext.rσ hρ))).wipe (own.map (·.2)))
      refine ⟨W2, wipeD ρ (own.map (·.2)), ds[i], ρ2, rfl, st2.ok, hρ2, rx, e4, fun σ2 hσ2 hsame => ⟨?_, ?_⟩⟩
      · have h1 := hsame.wipe hts
        rw [h1]
        apply List.ext_getElem?
        intro j
        rw [wipe_get, wipe_get, wipe_length]
        by_cases hj : j ∈ own.map (·.2)
        · rw [if_pos hj, if_pos hj]
        · rw [if_neg hj]
      · refine ⟨W2, ρ2, b, S3, rfl, st2.ok, hσ2, by rw [st2.st]; exact e5, fun W3 st3 => ?_⟩
        have mem2 : p ∈ Wi.hid := by rw [hidi]; exact List.mem_cons_self
        have step : ∀ {W4 : Wd} {S4 : Store}, Stp (md X) Wi S4 W4 → W4.hid = p :: W1.hid ∧ (∀ a ∈ W1.hid, W4.H a = W1.H a) ∧ W4.H p = some (.lst us) ∧ Rps X.K W4 acc us ∧ Ext X.K W1 W4 := fun {W4 S4} s4 =>
          ⟨s4.hid.trans hidi, fun a ha => (s4.keep a (by rw [hidi]; exact List.mem_cons_of_mem _ ha)).trans (keepi a ha), (s4.keep p mem2).trans hpi, s4.ext.rps ri, exi.trans s4.ext⟩
        dsimp only at hv
        split at hv
        · rename_i hb
          subst hb
          refine iteT ?_
          rw [Option.bind_eq_some_iff] at hv
          obtain ⟨⟨y, S4⟩, e6, hv⟩ := hv
          dsimp only at hv
          split at hv
          · rename_i hlen
            refine ⟨W3, ρ2, y, S4, rfl, st3.ok, st3.ext.rσ hσ2, by rw [st3.st]; exact e6, fun W4 vy st4 ry => ?_⟩
            obtain ⟨g1, g2, g3, g4, g5⟩ := step (st2.trans (st3.trans st4))
            refine ⟨us, g3, by rw [← g4.length]; exact hlen, k - 1, by omega, by omega, ?_⟩
            obtain ⟨ok5, ex5⟩ := st4.ok.hidden (p := p) (by rw [g1]; exact List.mem_cons_self) (.lst (us ++ [vy])) (fun xs h => by
              rcases h with h | ⟨ob, h⟩ <;> rw [g3] at h <;> cases h) (fun o xs h => by rw [g3] at h; cases h)
            refine ⟨_, acc ++ [y], us ++ [vy], rfl, ok5, g5.trans ex5, g1, fun a ha => ?_, upd_same, ex5.rps (g4.append (Rps.one ry)), ?_⟩
            · show upd W4.H p _ a = _
              rw [upd_ne (fun z => by subst z; exact st.ok.hid a ha hp)]; exact g2 a ha
            · show compL _ _ _ _ _ _ _ W4.S _ = _
              rw [st4.st]; exact hv
          · cases hv
        · rename_i hb
          obtain rfl : b = false := by cases b <;> simp_all
          refine iteF ?_
          obtain ⟨g1, g2, g3, g4, g5⟩ := step (st2.trans st3)
          exact ⟨k - 1, by omega, by omega, W3, acc, us, rfl, st3.ok, g5, g1, g2, g3, g4, by rw [st3.st]; exact hv⟩
    · cases hv
  · left
    have e : i = ds.length := by omega
    subst e
    rw [List.drop_length, compL] at hv
    split at hv
    · rename_i hgd
      cases hv
      refine ⟨wk.stop Wi exi keepi oki hgd, ?_⟩
      exact newL_hid e3 oki hidi hpi (fun z => st.ok.hid p z hp) ri exi keepi (q.step st)
    · cases hv
theorem e_lc {elt tg iter : Expr} {ifs : List Expr} {scope : Scope} {own : List (Str × Nat)} {it : MI} {g : FG} {ts : List Nat} {t : MT} {fe : ME} (mu : Bool) (hc : X.calm = true) (hN : X.N.Nodup) (hi : EvI X tg iter it) (ok : BlkOk X.N X.env.scope scope own) (hts : ∀ i ∈ ts, i ∈ own.map (·.2))
    (hg : ∀ (s : Shared) (H : Hp) (C : Addr) (cl : List (Str × Addr)) (fp : List Addr), EvG (X.blk s H scope (compEnvC scope cl C X.env) fp) tg g ts) (ht : ∀ (s : Shared) (H : Hp) (C : Addr) (cl : List (Str × Addr)) (fp : List Addr), EvTs (X.blk s H scope (compEnvC scope cl C X.env) fp) ifs t)
    (he : ∀ (s : Shared) (H : Hp) (C : Addr) (cl : List (Str × Addr)) (fp : List Addr), EvE (X.blk s H scope (compEnvC scope cl C X.env) fp) elt fe) (hs : ∀ x, foldedSetIterable iter X.env x = pure x := by intro _; rfl) :
    EvE X (.ListComp elt [⟨tg, iter, ifs, 0⟩] scope pos) (eLc mu (own.map (·.2)) it g t fe) := PE.imp (pe_lc (g := tG (md X) g ts) (tt := tT (md X) t) (te := tE (md X) fe) hc hN hi ok hg ht he hs) (lc_go hts)
theorem s_setLc (i : Nat) {y : Str} {py spos : Pos} {elt tg iter : Expr} {ifs : List Expr} {scope : Scope} {own : List (Str × Nat)} {it : MI} {g : FG} {ts : List Nat} {t : MT} {fe : ME} (mu : Bool) (hc : X.calm = true) (hN : X.N.Nodup) (hi : EvI X tg iter it) (ok : BlkOk X.N X.env.scope scope own) (hts : ∀ i ∈ ts, i ∈ own.map (·.2))
    (hg : ∀ (s : Shared) (H : Hp) (C : Addr) (cl : List (Str × Addr)) (fp : List Addr), EvG (X.blk s H scope (compEnvC scope cl C X.env) fp) tg g ts) (ht : ∀ (s : Shared) (H : Hp) (C : Addr) (cl : List (Str × Addr)) (fp : List Addr), EvTs (X.blk s H scope (compEnvC scope cl C X.env) fp) ifs t)
    (he : ∀ (s : Shared) (H : Hp) (C : Addr) (cl : List (Str × Addr)) (fp : List Addr), EvE (X.blk s H scope (compEnvC scope cl C X.env) fp) elt fe) (hy : X.N[i]? = some y := by rfl) (hyl : X.env.scope.names.lookup y = some .local := by rfl)
    (hsw : swapsWith (.ListComp elt [⟨tg, iter, ifs, 0⟩] scope pos) (some (.Name y py)) spos.line X.env = pure true := by rfl) (hs : ∀ x, foldedSetIterable iter X.env x = pure x := by intro _; rfl) :
    EvS X (.Assign [.Name y py] (.ListComp elt [⟨tg, iter, ifs, 0⟩] scope pos) spos) (sAsg (eLc mu (own.map (·.2)) it g t fe) (gN i)) := PS.imp (ps_setLc (g := tG (md X) g ts) (tt := tT (md X) t) (te := tE (md X) fe) hc hN hy hyl hsw hi ok hg ht he hs) fun E σ H h => by
  obtain ⟨W, ρ, r, rfl, okW, hρ, hv, q⟩ := h
  unfold sAsg gN at hv
  rw [Option.bind_eq_some_iff] at hv
  obtain ⟨⟨d, S1⟩, e1, hv⟩ := hv
  cases hv
  exact lc_go hts _ _ _ ⟨W, ρ, d, S1, rfl, okW, hρ, e1, fun W1 v st rr => q W1 _ st ((st.ext.rσ hρ).set rr i)⟩
end
end Ev
end L2

namespace L2
namespace Ev
open PyProof.Rows PySem.Spec PySem L2
variable [Tb]

/-! ### defs -/
def spD (m : Md) (n : Nat) (g : List D → M D) : Sp := fun vs H Q _ => ∃ W ds d S', W.H = H ∧ Ok m W ∧ Rps m.K W ds vs ∧ ds.length = n ∧ g ds W.S = some (d, S') ∧ Pst m W S' d Q
/-- a def's body, run -/
def Res.out : Res → Option (D × Store)
  | .nx _ S => some (.non, S)
  | .rt d S => some (d, S)
  | .bk _ _ => none
  | .ct _ _ => none
def runDef (n : Nat) (f : MS) : List D → M D := fun ds S => (f (ds.map some ++ List.replicate (n - ds.length) none) S).bind Res.out
theorem rσ_start {m : Md} {W : Wd} {ds : List D} {vs : List V} (N : List Str) (r : Rps m.K W ds vs) : Rσ m.K W (ds.map some ++ List.replicate (N.length - ds.length) none) (start N vs) := by
  unfold start
  refine ⟨by rw [List.length_append, List.length_append, List.length_map, List.length_map, List.length_replicate, List.length_replicate, r.length], fun i d h => ?_⟩
  by_cases hi : i < ds.length
  · rw [List.getElem?_append_left (by rw [List.length_map]; exact hi), List.getElem?_map] at h
    rw [List.getElem?_eq_getElem hi] at h
    have e : ds[i] = d := by simpa using h
    obtain ⟨v, h1, h2⟩ := r.get (List.getElem?_eq_getElem hi)
    refine ⟨v, ?_, by rw [← e]; exact h2⟩
    rw [List.getElem?_append_left (by rw [List.length_map, ← r.length]; exact hi), List.getElem?_map, h1]; rfl
  · rw [List.getElem?_append_right (by rw [List.length_map]; omega), List.getElem?_replicate] at h
    split at h <;> cases h
section
variable {P : Program} {w : World} {K : PySem.W.Frag} {mg : Str → Option Value} {base : Heap}
/-- a def by its body -/
theorem fn_ev {x qual : Str} {st : Stmt} {f : Addr} {fd : FuncData} {N ps : List Str} {k : Nat} {g : MS} (F : Fun K x qual st f fd) (S : FnScope N ps (defScope st))
    (hb : ∀ (cdv : Value) (A : Around) (outer : List Env) (s : Shared) (H : Hp) (E : XK), Room k (A.deeper (envOfC qual (defScope st) s.heap.objs.size f cdv)) →
      EvB ((cxOf CX0 P w K mg base N qual (defScope st) f cdv A outer s H E).nox) (defBody st) g) : FnOk P w K mg base CX0 (k + 1) f fd ps (spD ⟨P, w, K⟩ ps.length (runDef N.length g)) := by
  refine F.ok S (fun vs H Q E h => ?_) (fun cdv A outer s H vs Q E hr h => ?_)
  · obtain ⟨W, ds, d, S', rfl, ok, r, hl, _, _⟩ := h
    rw [← r.length]; exact hl
  · obtain ⟨W, ds, d, S', rfl, ok, r, hl, he, q⟩ := h
    refine ⟨_, hb cdv A outer s W.H E hr, ?_⟩
    unfold runDef at he
    rw [Option.bind_eq_some_iff] at he
    obtain ⟨rs, e1, he⟩ := he
    refine ⟨W, _, rs, rfl, ok, rσ_start N r, e1, ?_⟩
    cases rs with
    | nx ρ S1 => cases he; exact fun W' σ' st hρ => q W' .non st rfl
    | rt d S1 => cases he; exact q
    | bk ρ S1 => cases he
    | ct ρ S1 => cases he
/-- a def that stands: how it is called, what it promises -/
structure Df (P : Program) (w : World) (K : PySem.W.Frag) (mg : Str → Option Value) (base : Heap) (x : Str) (k : Nat) (n : Nat) (g : List D → M D) : Prop where
  ex : ∃ (f : Addr) (fd : FuncData) (ps : List Str), mg x = some (.ref f) ∧ PySem.W.keepIn K (.ref f) = true ∧ Binds K fd ps [] ∧ ps.length = n ∧ FnOk P w K mg base CX0 k f fd ps (spD ⟨P, w, K⟩ n g)
theorem Df.mono {x : Str} {j k n : Nat} {g : List D → M D} (d : Df P w K mg base x j n g) (h : j ≤ k) : Df P w K mg base x k n g := by
  obtain ⟨f, fd, ps, h1, h2, h3, h4, h5⟩ := d.ex
  exact ⟨f, fd, ps, h1, h2, h3, h4, h5.mono h⟩
theorem spD_imp {m : Md} {n : Nat} {g g' : List D → M D} (h : ∀ ds S r, g' ds S = some r → g ds S = some r) {vs : List V} {H : Hp} {Q : VK} {E : XK} (q : spD m n g' vs H Q E) : spD m n g vs H Q E := by
  obtain ⟨W, ds, d, S', h1, h2, h3, h4, h5, h6⟩ := q
  exact ⟨W, ds, d, S', h1, h2, h3, h4, h _ _ _ h5, h6⟩
end
section
variable {X : Cx} {e a b c : Expr} {es : List Expr} {pos : Pos} {fa fb fc : ME} {fs : MA} {x : Str} {p : Pos}
def eCall (n : Nat) (g : List D → M D) (fs : MA) : ME := fun ρ S => (fs ρ S).bind fun (ds, S1) => if ds.length = n then g ds S1 else none
theorem e_call {j k n : Nat} {g : List D → M D} (G : Df X.prog X.w X.K X.mg X.base x k n g) (hr : Room j X.A) (ha : EvA X (e :: es) fs) (hk : k ≤ j := by decide) (hg : Gl X x := by rfl) (hdb : (x == ("__debug__" : Str)) = false := by decide)
    (he : starEach (e :: es) X.env = (false, eval e X.env) :: starEach es X.env := by rfl) (hpl : (backTo pos (starEach es X.env)).any (·.1) = false := by rfl) : EvE X (.Call (.Name x p) (e :: es) [] pos) (eCall n g fs) := by
  obtain ⟨f, fd, ps, hm, kp, hb, hn, F⟩ := G.ex
  refine PE.imp (pe_call F (hr.mono hk) hg hm kp hb .nil pass0 ha hdb he hpl) fun σ H Q => ?_
  rintro ⟨W, ρ, d, S', rfl, ok, hρ, he, q⟩
  unfold eCall at he
  rw [Option.bind_eq_some_iff] at he
  obtain ⟨⟨ds, S1⟩, e1, he⟩ := he
  dsimp only at he
  split at he
  · rename_i hl
    refine ⟨W, ρ, ds, S1, rfl, ok, hρ, e1, fun W' vs st r => ?_⟩
    show spD ⟨X.prog, X.w, X.K⟩ n g (vs ++ []) W'.H Q E0
    rw [List.append_nil]
    exact ⟨W', ds, d, S', rfl, st.ok, r, hl, by rw [st.st]; exact he, q.step st⟩
  · cases he

/-! ### built-ins by values -/
def Bf (X : Cx) (f : Value) (g : List D → M D) : Prop := CallR X f (rFn (md X) g)
def eFn (g : List D → M D) (fs : MA) : ME := fun ρ S => (fs ρ S).bind fun (ds, S1) => g ds S1
theorem fn_go {m : Md} {g : List D → M D} {σ : St} {H : Hp} {Q : VK} (h : tE m (eFn g fs) σ H Q) : tCB (rFn m g) (tA m fs) σ H Q := by
  obtain ⟨W, ρ, d, S', rfl, ok, hρ, he, q⟩ := h
  unfold eFn at he
  rw [Option.bind_eq_some_iff] at he
  obtain ⟨⟨ds, S1⟩, e1, he⟩ := he
  exact ⟨W, ρ, ds, S1, rfl, ok, hρ, e1, fun W' vs st r => ⟨W', ds, d, S', rfl, st.ok, r, by rw [st.st]; exact he, q.step st⟩⟩
theorem e_blt {id : String} {g : List D → M D} (hc : Bf X (.builtin id) g) (hm : X.mg x = none) (ha : EvA X (e :: es) fs) (hv : bootBuiltins x = some (.builtin id) := by first | rfl | decide +kernel) (hg : Gl X x := by rfl) (hn : x ≠ "__name__" := by decide) (hdb : (x == ("__debug__" : Str)) = false := by decide)
    (he : starEach (e :: es) X.env = (false, eval e X.env) :: starEach es X.env := by rfl) (hpl : (backTo pos (starEach es X.env)).any (·.1) = false := by rfl) : EvE X (.Call (.Name x p) (e :: es) [] pos) (eFn g fs) :=
  PE.imp (pe_callB hc hg hm hv ha hn hdb he hpl) fun _ _ _ h => fn_go h
theorem e_bty {T : String} {g : List D → M D} (hc : Bf X (.type T) g) (hm : X.mg x = none) (ha : EvA X (e :: es) fs) (hv : bootBuiltins x = some (.type T) := by first | rfl | decide +kernel) (hg : Gl X x := by rfl) (hn : x ≠ "__name__" := by decide) (hdb : (x == ("__debug__" : Str)) = false := by decide)
    (he : starEach (e :: es) X.env = (false, eval e X.env) :: starEach es X.env := by rfl) (hpl : (backTo pos (starEach es X.env)).any (·.1) = false := by rfl) : EvE X (.Call (.Name x p) (e :: es) [] pos) (eFn g fs) :=
  PE.imp (pe_callTy hc hg hm hv ha hn hdb he hpl) fun _ _ _ h => fn_go h
theorem CallR.split {f : Value} {r' : List V → Hp → VK → Prop} (h : ∀ x H Q, r' x H Q → ∃ r, CallR X f r ∧ r x H Q) : CallR X f r' := fun pins s σ H x v Q I rx q => by
  obtain ⟨r, h1, h2⟩ := h x H Q q
  exact h1 pins s σ H x v Q I rx h2
/-- len -/
def fLen : List D → M D := fun ds S => match ds with
  | [.tup xs] => some (.int xs.length, S)
  | [.str z] => if z.length ≤ sizeLine then some (.int z.length, S) else none
  | [x] => (readOf S x).map fun xs => (.int xs.length, S)
  | _ => none
theorem f_len0 : Bf X (.builtin "len") fLen := CallR.split fun xs H Q h => by
  obtain ⟨W, ds, d, S', rfl, ok, r, he, q⟩ := h
  unfold fLen at he
  split at he
  · cases he
    obtain ⟨v, rfl, r1⟩ := rps_one r
    obtain ⟨a, vs, rfl, h1, h2⟩ := r1
    exact ⟨_, call_len_seq, a, vs, rfl, .inr h1, by rw [← h2.length]; exact q.val ok rfl⟩
  · split at he
    · rename_i hz
      cases he
      obtain ⟨v, rfl, r1⟩ := rps_one r
      cases r1
      exact ⟨_, call_len_str, _, rfl, hz, q.val ok rfl⟩
    · cases he
  · simp only [Option.map_eq_some_iff, Prod.mk.injEq] at he
    obtain ⟨ys, h0, rfl, rfl⟩ := he
    obtain ⟨v, rfl, r1⟩ := rps_one r
    obtain ⟨a, vs, rfl, h1, h2⟩ := readOf_ok ok h0 r1
    exact ⟨_, call_len_seq, a, vs, rfl, .inl h1, by rw [← h2.length]; exact q.val ok rfl⟩
  · cases he
/-- tuple(x), list(x) -/
def fTuple : List D → M D := fun ds S => match ds with
  | [.tup xs] => some (.tup xs, S)
  | [x] => (readOf S x).map fun xs => (.tup xs, S)
  | _ => none
theorem f_tuple : Bf X (.type "tuple") fTuple := CallR.split fun xs H Q h => by
  obtain ⟨W, ds, d, S', rfl, ok, r, he, q⟩ := h
  unfold fTuple at he
  split at he
  · cases he
    obtain ⟨v, rfl, r1⟩ := rps_one r
    obtain ⟨a, vs, rfl, h1, h2⟩ := id r1
    exact ⟨_, call_tupleT, a, vs, rfl, h1, q.val ok r1⟩
  · simp only [Option.map_eq_some_iff, Prod.mk.injEq] at he
    obtain ⟨ys, h0, rfl, rfl⟩ := he
    obtain ⟨v, rfl, r1⟩ := rps_one r
    obtain ⟨a, vs, rfl, h1, h2⟩ := readOf_ok ok h0 r1
    exact ⟨_, call_tuple_of, a, vs, rfl, .inl ⟨h1, fun l hl => newT_ok ok h2 hl q⟩⟩
  · cases he
def fList (mu : Bool) : List D → M D := fun ds S => match ds with
  | [.tup xs] => newL mu xs S
  | [x] => (readOf S x).bind fun xs => newL mu xs S
  | _ => none
theorem f_list (mu : Bool) : Bf X (.type "list") (fList mu) := CallR.split fun xs H Q h => by
  obtain ⟨W, ds, d, S', rfl, ok, r, he, q⟩ := h
  unfold fList at he
  split at he
  · obtain ⟨v, rfl, r1⟩ := rps_one r
    obtain ⟨a, vs, rfl, h1, h2⟩ := r1
    exact ⟨_, call_list_of, a, vs, rfl, .inr h1, fun l hl => newL_ok he ok h2 hl q⟩
  · rw [Option.bind_eq_some_iff] at he
    obtain ⟨ys, h0, he⟩ := he
    obtain ⟨v, rfl, r1⟩ := rps_one r
    obtain ⟨a, vs, rfl, h1, h2⟩ := readOf_ok ok h0 r1
    exact ⟨_, call_list_of, a, vs, rfl, .inl h1, fun l hl => newL_ok he ok h2 hl q⟩
  · cases he
/-- lists of truths, of ints -/
def blsOf : List D → Option (List Bool)
  | [] => some []
  | .bl b :: r => (blsOf r).map (b :: ·)
  | _ :: _ => none
def intsOf : List D → Option (List Int)
  | [] => some []
  | .int b :: r => (intsOf r).map (b :: ·)
  | _ :: _ => none
theorem blsOf_eq : ∀ {ds : List D} {bs : List Bool}, blsOf ds = some bs → ds = bs.map D.bl
  | [], bs, h => by cases h; rfl
  | d :: ds, bs, h => by
    cases d with
    | bl b =>
      simp only [blsOf, Option.map_eq_some_iff] at h
      obtain ⟨r, h, rfl⟩ := h
      rw [blsOf_eq h]; rfl
    | _ => cases h
theorem intsOf_eq : ∀ {ds : List D} {bs : List Int}, intsOf ds = some bs → ds = bs.map D.int
  | [], bs, h => by cases h; rfl
  | d :: ds, bs, h => by
    cases d with
    | int b =>
      simp only [intsOf, Option.map_eq_some_iff] at h
      obtain ⟨r, h, rfl⟩ := h
      rw [intsOf_eq h]; rfl
    | _ => cases h
theorem intsOf_map : ∀ (ns : List Int), intsOf (ns.map D.int) = some ns
  | [] => rfl
  | n :: ns => by rw [List.map_cons, intsOf, intsOf_map ns]; rfl
theorem blsOf_map : ∀ (ns : List Bool), blsOf (ns.map D.bl) = some ns
  | [] => rfl
  | n :: ns => by rw [List.map_cons, blsOf, blsOf_map ns]; rfl
theorem rps_bls {m : Md} {W : Wd} : ∀ (bs : List Bool) (vs : List V), Rps m.K W (bs.map D.bl) vs → vs = bs.map V.bl
  | [], _, h => h
  | b :: bs, _, h => by
    obtain ⟨v, r, rfl, h1, h2⟩ := h
    have h1 : v = V.bl b := h1
    rw [h1, rps_bls bs r h2]; rfl
def fAll : List D → M D := fun ds S => match ds with
  | [x] => (readOf S x).bind fun xs => (blsOf xs).map fun bs => (.bl (bs.all id), S)
  | _ => none
def fAny : List D → M D := fun ds S => match ds with
  | [x] => (readOf S x).bind fun xs => (blsOf xs).map fun bs => (.bl (bs.any id), S)
  | _ => none
theorem f_all (hc : X.calm = true) : Bf X (.builtin "all") fAll := CallR.split fun xs H Q h => by
  obtain ⟨W, ds, d, S', rfl, ok, r, he, q⟩ := h
  unfold fAll at he
  split at he
  · rw [Option.bind_eq_some_iff] at he
    obtain ⟨ys, h0, he⟩ := he
    simp only [Option.map_eq_some_iff, Prod.mk.injEq] at he
    obtain ⟨bs, h3, rfl, rfl⟩ := he
    obtain ⟨v, rfl, r1⟩ := rps_one r
    obtain ⟨a, vs, rfl, h1, h2⟩ := readOf_ok ok h0 r1
    rw [blsOf_eq h3] at h2
    rw [rps_bls bs vs h2] at h1
    exact ⟨_, cr_all hc, a, bs, rfl, h1, q.val ok rfl⟩
  · cases he
theorem f_any (hc : X.calm = true) : Bf X (.builtin "any") fAny := CallR.split fun xs H Q h => by
  obtain ⟨W, ds, d, S', rfl, ok, r, he, q⟩ := h
  unfold fAny at he
  split at he
  · rw [Option.bind_eq_some_iff] at he
    obtain ⟨ys, h0, he⟩ := he
    simp only [Option.map_eq_some_iff, Prod.mk.injEq] at he
    obtain ⟨bs, h3, rfl, rfl⟩ := he
    obtain ⟨v, rfl, r1⟩ := rps_one r
    obtain ⟨a, vs, rfl, h1, h2⟩ := readOf_ok ok h0 r1
    rw [blsOf_eq h3] at h2
    rw [rps_bls bs vs h2] at h1
    exact ⟨_, cr_any hc, a, bs, rfl, h1, q.val ok rfl⟩
  · cases he
def fSum : List D → M D := fun ds S => match ds with
  | [x] => (readOf S x).bind fun xs => (intsOf xs).map fun ns => (.int ns.sum, S)
  | _ => none
theorem f_sum (hc : X.calm = true) : Bf X (.builtin "sum") fSum := CallR.split fun xs H Q h => by
  obtain ⟨W, ds, d, S', rfl, ok, r, he, q⟩ := h
  unfold fSum at he
  split at he
  · rw [Option.bind_eq_some_iff] at he
    obtain ⟨ys, h0, he⟩ := he
    simp only [Option.map_eq_some_iff, Prod.mk.injEq] at he
    obtain ⟨bs, h3, rfl, rfl⟩ := he
    obtain ⟨v, rfl, r1⟩ := rps_one r
    obtain ⟨a, vs, rfl, h1, h2⟩ := readOf_ok ok h0 r1
    rw [intsOf_eq h3] at h2
    rw [Rps.ints_inv bs vs h2] at h1
    exact ⟨_, cr_sum hc, a, bs, rfl, h1, q.val ok rfl⟩
  · cases he
/-- str(x), int(x) -/
def fStr : List D → M D := fun ds S => match ds with
  | [.int i] => if i.natAbs < 2 ^ 1000 then some (.str (toString i), S) else none
  | [.str z] => some (.str z, S)
  | [.bl b] => some (.str (if b then "True" else "False"), S)
  | _ => none
theorem call_str_bl : CallR X (.type "str") (fun xs H Q => ∃ b, xs = [.bl b] ∧ Q (.str (if b then "True" else "False")) H) := by
  intro pins s σ H xs us Q I r h
  obtain ⟨b, rfl, q⟩ := h
  obtain ⟨u, rfl, ru⟩ := vals1 r
  cases ru
  refine PySem.P.str_of_bool ⟨.str _, H, I.tok _, ⟨_, rfl⟩, ?_⟩
  exact q
theorem f_str : Bf X (.type "str") fStr := CallR.split fun xs H Q h => by
  obtain ⟨W, ds, d, S', rfl, ok, r, he, q⟩ := h
  unfold fStr at he
  split at he
  · split at he
    · rename_i i hz
      cases he
      obtain ⟨v, rfl, r1⟩ := rps_one r
      cases r1
      exact ⟨_, call_str_int, i, rfl, Nat.lt_of_lt_of_le (PySem.Flt.log2_lt_of (by decide : 0 < 1000) hz) (by decide), q.val ok rfl⟩
    · cases he
  · cases he
    obtain ⟨v, rfl, r1⟩ := rps_one r
    cases r1
    exact ⟨_, SkE.call_str_str, _, rfl, q.val ok rfl⟩
  · cases he
    obtain ⟨v, rfl, r1⟩ := rps_one r
    cases r1
    exact ⟨_, call_str_bl, _, rfl, q.val ok rfl⟩
  · cases he
def fInt : List D → M D := fun ds S => match ds with
  | [.int i] => some (.int i, S)
  | [.bl b] => some (.int (if b then 1 else 0), S)
  | [.str z] => (PySem.intText? z).bind fun n => if z.length ≤ 640 then some (.int n, S) else none
  | _ => none
theorem f_int : Bf X (.type "int") fInt := CallR.split fun xs H Q h => by
  obtain ⟨W, ds, d, S', rfl, ok, r, he, q⟩ := h
  unfold fInt at he
  split at he
  · cases he
    obtain ⟨v, rfl, r1⟩ := rps_one r
    cases r1
    exact ⟨_, call_int1, .inl ⟨_, rfl, q.val ok rfl⟩⟩
  · cases he
    obtain ⟨v, rfl, r1⟩ := rps_one r
    cases r1
    exact ⟨_, call_int1, .inr ⟨_, rfl, q.val ok rfl⟩⟩
  · rw [Option.bind_eq_some_iff] at he
    obtain ⟨n, h0, he⟩ := he
    split at he
    · rename_i hz
      cases he
      obtain ⟨v, rfl, r1⟩ := rps_one r
      cases r1
      exact ⟨_, call_int_str, _, n, rfl, h0, hz, q.val ok rfl⟩
    · cases he
  · cases he
/-- max, min: of a list of ints, a tuple of ints, two ints -/
def maxI : List Int → Option Int
  | [] => none
  | x :: xs => some (xs.foldl (fun a b => if b > a then b else a) x)
def minI : List Int → Option Int
  | [] => none
  | x :: xs => some (xs.foldl (fun a b => if b < a then b else a) x)
theorem maxI_spec : ∀ {ns : List Int} {m : Int}, maxI ns = some m → m ∈ ns ∧ ∀ y ∈ ns, y ≤ m
  | [], _, h => by cases h
  | x :: xs, m, h => by
    have h : xs.foldl (fun a b => if b > a then b else a) x = m := Option.some.inj h
    subst h
    have : ∀ (xs : List Int) (x : Int), (xs.foldl (fun a b => if b > a then b else a) x = x ∨ xs.foldl (fun a b => if b > a then b else a) x ∈ xs) ∧ x ≤ xs.foldl (fun a b => if b > a then b else a) x ∧ ∀ y ∈ xs, y ≤ xs.foldl (fun a b => if b > a then b else a) x := by
      intro xs
      induction xs with
      | nil => intro x; simp
      | cons y ys ih =>
        intro x
        rw [List.foldl_cons]
        obtain ⟨h1, h2, h3⟩ := ih (if y > x then y else x)
        have e : x ≤ (if y > x then y else x) ∧ y ≤ (if y > x then y else x) := by split <;> omega
        refine ⟨?_, Int.le_trans e.1 h2, fun z hz => ?_⟩
        · rcases h1 with h1 | h1
          · rw [h1]
            split
            · right; simp
            · left; rfl
          · right; exact List.mem_cons_of_mem _ h1
        · rcases List.mem_cons.mp hz with rfl | hz
          · exact Int.le_trans e.2 h2
          · exact h3 z hz
    obtain ⟨h1, h2, h3⟩ := this xs x
    refine ⟨?_, fun y hy => ?_⟩
    · rcases h1 with h1 | h1
      · rw [h1]; exact List.mem_cons_self
      · exact List.mem_cons_of_mem _ h1
    · rcases List.mem_cons.mp hy with rfl | hy
      · exact h2
      · exact h3 y hy
theorem minI_spec : ∀ {ns : List Int} {m : Int}, minI ns = some m → m ∈ ns ∧ ∀ y ∈ ns, m ≤ y
  | [], _, h => by cases h
  | x :: xs, m, h => by
    have h : xs.foldl (fun a b => if b < a then b else a) x = m := Option.some.inj h
    subst h
    have : ∀ (xs : List Int) (x : Int), (xs.foldl (fun a b => if b < a then b else a) x = x ∨ xs.foldl (fun a b => if b < a then b else a) x ∈ xs) ∧ xs.foldl (fun a b => if b < a then b else a) x ≤ x ∧ ∀ y ∈ xs, xs.foldl (fun a b => if b < a then b else a) x ≤ y := by
      intro xs
      induction xs with
      | nil => intro x; simp
      | cons y ys ih =>
        intro x
        rw [List.foldl_cons]
        obtain ⟨h1, h2, h3⟩ := ih (if y < x then y else x)
        have e : (if y < x then y else x) ≤ x ∧ (if y < x then y else x) ≤ y := by split <;> omega
        refine ⟨?_, Int.le_trans h2 e.1, fun z hz => ?_⟩
        · rcases h1 with h1 | h1
          · rw [h1]
            split
            · right; simp
            · left; rfl
          · right; exact List.mem_cons_of_mem _ h1
        · rcases List.mem_cons.mp hz with rfl | hz
          · exact Int.le_trans h2 e.2
          · exact h3 z hz
    obtain ⟨h1, h2, h3⟩ := this xs x
    refine ⟨?_, fun y hy => ?_⟩
    · rcases h1 with h1 | h1
      · rw [h1]; exact List.mem_cons_self
      · exact List.mem_cons_of_mem _ h1
    · rcases List.mem_cons.mp hy with rfl | hy
      · exact h2
      · exact h3 y hy
theorem max_uniq {ns : List Int} {m m' : Int} (h1 : m ∈ ns) (h2 : ∀ y ∈ ns, y ≤ m) (h3 : m' ∈ ns) (h4 : ∀ y ∈ ns, y ≤ m') : m = m' := Int.le_antisymm (h4 m h1) (h2 m' h3)
theorem min_uniq {ns : List Int} {m m' : Int} (h1 : m ∈ ns) (h2 : ∀ y ∈ ns, m ≤ y) (h3 : m' ∈ ns) (h4 : ∀ y ∈ ns, m' ≤ y) : m = m' := Int.le_antisymm (h2 m' h3) (h4 m h1)
/-- max, min of a pair as a tuple -/
theorem call_maxT (hc : X.calm = true) (hu : X.A.units + 190 < cLine) : CallR X (.builtin "max") (fun xs H Q => ∃ p i j, xs = [.ref p] ∧ SqT X.K H p [.int i, .int j] ∧ Q (.int (if j > i then j else i)) H) := by
  intro pins s σ H xs us Q I r h
  obtain ⟨p, i, j, rfl, hp, q⟩ := h
  obtain ⟨u, rfl, ru⟩ := vals1 r
  cases ru
  obtain ⟨its, rv, ht, _⟩ := I.tuple hp
  obtain ⟨u1, u2, rfl, ⟨t1, rfl⟩, ⟨t2, rfl⟩⟩ := rv.two
  refine PySem.W.max_tuple_data (vs := #[.int i t1, .int j t2]) (x := .int i) (xs := [.int j]) (I.ok.hd hc) (show s.heap.IsTuple p #[.int i t1, .int j t2] from ht) (.cons (.int i t1) (.cons (.int j t2) .nil)) ?_ (by simp [PyData.depthAll, PyData.depth]; omega) fun k v h' tk bs hk hr keep => ?_
  · refine ⟨?_, ?_⟩
    · intro d hd d' hd'
      simp at hd hd'
      rcases hd with rfl | rfl <;> rcases hd' with rfl | rfl <;> simp [PySem.W.alike]
    · intro d hd
      simp at hd
      rcases hd with rfl | rfl <;> simp
  · have e : PySem.W.maxD (.int i) [.int j] = .int (if j > i then j else i) := by
      simp only [PySem.W.maxD, List.foldl, PySem.W.dataLt_int, decide_eq_true_eq]
      split <;> rename_i h <;> simp_all
    rw [e] at hr
    cases hr
    exact ⟨.int _, H, I.kept (t' := tk) keep, ⟨_, rfl⟩, q⟩
end
end Ev
end L2

namespace L2
namespace Ev
open PyProof.Rows PySem.Spec PySem L2
variable [Tb]

section
variable {X : Cx} {e a b c o : Expr} {es : List Expr} {pos apos cpos : Pos} {fa fb fc fo : ME} {fs : MA} {x name : Str} {p : Pos}
theorem call_minT (hc : X.calm = true) (hu : X.A.units + 190 < cLine) : CallR X (.builtin "min") (fun xs H Q => ∃ p i j, xs = [.ref p] ∧ SqT X.K H p [.int i, .int j] ∧ Q (.int (if j < i then j else i)) H) := by
  intro pins s σ H xs us Q I r h
  obtain ⟨p, i, j, rfl, hp, q⟩ := h
  obtain ⟨u, rfl, ru⟩ := vals1 r
  cases ru
  obtain ⟨its, rv, ht, _⟩ := I.tuple hp
  obtain ⟨u1, u2, rfl, ⟨t1, rfl⟩, ⟨t2, rfl⟩⟩ := rv.two
  refine PySem.W.min_tuple_data (vs := #[.int i t1, .int j t2]) (x := .int i) (xs := [.int j]) (I.ok.hd hc) (show s.heap.IsTuple p #[.int i t1, .int j t2] from ht) (.cons (.int i t1) (.cons (.int j t2) .nil)) ?_ (by simp [PyData.depthAll, PyData.depth]; omega) fun k v h' tk bs hk hr keep => ?_
  · refine ⟨?_, ?_⟩
    · intro d hd d' hd'
      simp at hd hd'
      rcases hd with rfl | rfl <;> rcases hd' with rfl | rfl <;> simp [PySem.W.alike]
    · intro d hd
      simp at hd
      rcases hd with rfl | rfl <;> simp
  · have e : PySem.W.minD (.int i) [.int j] = .int (if j < i then j else i) := by
      simp only [PySem.W.minD, List.foldl, PySem.W.dataLt_int, decide_eq_true_eq]
      split <;> rename_i h <;> simp_all
    rw [e] at hr
    cases hr
    exact ⟨.int _, H, I.kept (t' := tk) keep, ⟨_, rfl⟩, q⟩
def fMax : List D → M D := fun ds S => match ds with
  | [.int i, .int j] => some (.int (if j > i then j else i), S)
  | [.tup [.int i, .int j]] => some (.int (if j > i then j else i), S)
  | [x] => (readOf S x).bind fun xs => (intsOf xs).bind fun ns => (maxI ns).map fun m => (.int m, S)
  | _ => none
def fMin : List D → M D := fun ds S => match ds with
  | [.int i, .int j] => some (.int (if j < i then j else i), S)
  | [.tup [.int i, .int j]] => some (.int (if j < i then j else i), S)
  | [x] => (readOf S x).bind fun xs => (intsOf xs).bind fun ns => (minI ns).map fun m => (.int m, S)
  | _ => none
theorem rps_pairI {m : Md} {W : Wd} {i j : Int} {vs : List V} (r : Rps m.K W [.int i, .int j] vs) : vs = [.int i, .int j] := by
  obtain ⟨v, u, rfl, r1, r2⟩ := rps_two r
  cases r1; cases r2; rfl
theorem f_max (hc : X.calm = true) (hu : X.A.units + 190 < cLine) : Bf X (.builtin "max") fMax := CallR.split fun xs H Q h => by
  obtain ⟨W, ds, d, S', rfl, ok, r, he, q⟩ := h
  unfold fMax at he
  split at he
  · cases he
    rw [rps_pairI r]
    exact ⟨_, call_max2 hc, _, _, rfl, q.val ok rfl⟩
  · cases he
    obtain ⟨v, rfl, r1⟩ := rps_one r
    obtain ⟨a, vs, rfl, h1, h2⟩ := r1
    rw [rps_pairI h2] at h1
    exact ⟨_, call_maxT hc hu, a, _, _, rfl, h1, q.val ok rfl⟩
  · rw [Option.bind_eq_some_iff] at he
    obtain ⟨ys, h0, he⟩ := he
    rw [Option.bind_eq_some_iff] at he
    obtain ⟨ns, h3, he⟩ := he
    simp only [Option.map_eq_some_iff, Prod.mk.injEq] at he
    obtain ⟨mm, h4, rfl, rfl⟩ := he
    obtain ⟨v, rfl, r1⟩ := rps_one r
    obtain ⟨a, vs, rfl, h1, h2⟩ := readOf_ok ok h0 r1
    rw [intsOf_eq h3] at h2
    rw [Rps.ints_inv ns vs h2] at h1
    obtain ⟨g1, g2⟩ := maxI_spec h4
    refine ⟨_, cr_max hc, a, ns, rfl, h1, ?_, fun m' k1 k2 => ?_⟩
    · cases ns with
      | nil => cases h4
      | cons => simp
    · rw [max_uniq k1 k2 g1 g2]; exact q.val ok rfl
  · cases he
theorem f_min (hc : X.calm = true) (hu : X.A.units + 190 < cLine) : Bf X (.builtin "min") fMin := CallR.split fun xs H Q h => by
  obtain ⟨W, ds, d, S', rfl, ok, r, he, q⟩ := h
  unfold fMin at he
  split at he
  · cases he
    rw [rps_pairI r]
    exact ⟨_, call_min2 hc, _, _, rfl, q.val ok rfl⟩
  · cases he
    obtain ⟨v, rfl, r1⟩ := rps_one r
    obtain ⟨a, vs, rfl, h1, h2⟩ := r1
    rw [rps_pairI h2] at h1
    exact ⟨_, call_minT hc hu, a, _, _, rfl, h1, q.val ok rfl⟩
  · rw [Option.bind_eq_some_iff] at he
    obtain ⟨ys, h0, he⟩ := he
    rw [Option.bind_eq_some_iff] at he
    obtain ⟨ns, h3, he⟩ := he
    simp only [Option.map_eq_some_iff, Prod.mk.injEq] at he
    obtain ⟨mm, h4, rfl, rfl⟩ := he
    obtain ⟨v, rfl, r1⟩ := rps_one r
    obtain ⟨a, vs, rfl, h1, h2⟩ := readOf_ok ok h0 r1
    rw [intsOf_eq h3] at h2
    rw [Rps.ints_inv ns vs h2] at h1
    obtain ⟨g1, g2⟩ := minI_spec h4
    refine ⟨_, cr_min hc, a, ns, rfl, h1, ?_, fun m' k1 k2 => ?_⟩
    · cases ns with
      | nil => cases h4
      | cons => simp
    · rw [min_uniq k1 k2 g1 g2]; exact q.val ok rfl
  · cases he

/-! ### types -/
def typD (S : Store) : D → String
  | .non => "NoneType"
  | .bl _ => "bool"
  | .int _ => "int"
  | .str _ => "str"
  | .tup _ => "tuple"
  | .lst _ => "list"
  | .scr _ => "list"
  | .ref n => match S[n]? with
    | some (.lst _) => "list"
    | some (.dct _) => "dict"
    | _ => ""
  | .adr _ => ""
def isiT (k T : String) : Bool := k == T || (k == "bool" && T == "int")
theorem kitB_ok : ∀ k ∈ ["NoneType", "bool", "int", "str", "tuple", "list"], ∀ T ∈ ["tuple", "int", "bool", "str", "list"], kitB k T = some (isiT k T) := by decide +kernel
def eIsi (T : String) (f : ME) : ME := fun ρ S => (f ρ S).bind fun (x, S1) => if typD S1 x ∈ ["NoneType", "bool", "int", "str", "tuple", "list"] then some (.bl (isiT (typD S1 x) T), S1) else none
theorem typ_x {m : Md} {W : Wd} {d : D} {v : V} (ok : Ok m W) (r : Rp m.K W d v) (h : typD W.S d ∈ ["NoneType", "bool", "int", "str", "tuple", "list"]) : TyX m.K W.H v (.type (typD W.S d)) := by
  cases d with
  | non => cases r; exact .base .non
  | bl b => cases r; exact .base (.bl b)
  | int b => cases r; exact .base (.int b)
  | str b => cases r; exact .base (.str b)
  | tup ds =>
    obtain ⟨a, vs, rfl, h1, h2⟩ := r
    rcases h1 with h1 | ⟨o, its, n, k1, k2, _⟩
    · rcases h1 with h1 | ⟨o, h1⟩
      · exact .base (.tup h1)
      · exact .fTuple h1
    · exact .kTuple k1 k2
  | lst ds => obtain ⟨a, vs, rfl, h1, _⟩ := r; exact .base (.lst h1)
  | scr ns =>
    obtain ⟨a, rfl, h1⟩ := r
    rcases h1 with (⟨o, h1⟩ | ⟨o, its, n, k1, k2, _⟩) | h1
    · exact .base (.frz h1)
    · exact .kList k1 k2
    · exact .base (.lst h1.1)
  | ref n =>
    simp only [typD] at h ⊢
    split at h
    · rename_i xs e
      obtain ⟨a, vs, rfl, h1, h2, h3⟩ := place_ok ok e r
      exact .base (.lst h2)
    · simp at h
    · simp at h
  | adr a => simp [typD] at h
theorem e_isi {T : Str} {Tn : String} {p2 : Pos} (hm : X.mg "isinstance" = none) (hmT : X.mg T = none) (he : EvE X e fa) (hT : Tn ∈ ["tuple", "int", "bool", "str", "list"] := by decide) (hv : bootBuiltins T = some (.type Tn) := by first | rfl | decide +kernel) (hg : Gl X "isinstance" := by rfl) (hgT : Gl X T := by rfl)
    (hn : T ≠ "__name__" := by decide) (hdb : (T == ("__debug__" : Str)) = false := by decide)
    (hs : starEach [.Name T p2] X.env = (false, eval (.Name T p2) X.env) :: starEach [] X.env := by rfl) (hs2 : starEach (e :: [.Name T p2]) X.env = (false, eval e X.env) :: starEach [.Name T p2] X.env := by rfl)
    (hpl : (backTo pos (starEach [.Name T p2] X.env)).any (·.1) = false := by rfl) : EvE X (.Call (.Name "isinstance" p) [e, .Name T p2] [] pos) (eIsi Tn fa) := by
  refine PE.imp (pe_callB (id := "isinstance") (r := rIsi X.K) call_isi hg hm (by first | rfl | decide +kernel) (pa_cons he (pa_cons (pe_bltn (v := .ty Tn) hgT hmT hv rfl hn hdb) pa_nil hs) hs2) (by decide) (by decide) hs2 hpl) fun σ H Q => ?_
  rintro ⟨W, ρ, d, S', rfl, ok, hρ, hh, q⟩
  unfold eIsi at hh
  rw [Option.bind_eq_some_iff] at hh
  obtain ⟨⟨x, S1⟩, e1, hh⟩ := hh
  dsimp only at hh
  split at hh
  · rename_i hk
    cases hh
    refine ⟨W, ρ, x, _, rfl, ok, hρ, e1, fun W' v st r => ?_⟩
    have hk' : typD W'.S x ∈ ["NoneType", "bool", "int", "str", "tuple", "list"] := by rw [st.st]; exact hk
    refine ⟨v, .ty Tn, .type (typD W'.S x), .type Tn, isiT (typD W'.S x) Tn, rfl, .ty Tn, typ_x st.ok r hk', kit_ty (kitB_ok _ hk' _ hT), ?_⟩
    rw [st.st]
    exact q W' _ st rfl
  · cases hh

/-! ### methods of built-in types -/
theorem typ_ok {pins : List (Addr × Obj)} {σ : St} {s : Shared} {W : Wd} {d : D} {v : V} {u : Value} {T : String} (I : Inv X pins σ W.H s) (ok : Ok (md X) W) (r : Rp X.K W d v) (ru : RelV v u) (h : typD W.S d = T) (hT : T = "str" ∨ T = "list" ∨ T = "int") :
    s.TypeIs u T ∧ ∀ a, u = .ref a → ∃ ob, s.heap.get? a = some ob ∧ ob.dict = none := by
  have go : ∀ ty : tyV X.K T v W.H, s.TypeIs u T ∧ ∀ a, u = .ref a → ∃ ob, s.heap.get? a = some ob ∧ ob.dict = none := fun ty => tyV_is I ru ty
  cases d with
  | str z => cases r; exact go h.symm
  | int z => cases r; exact go h.symm
  | lst ds => obtain ⟨a, vs, rfl, h1, _⟩ := r; exact go (.inl ⟨h.symm, vs, .inl (.inl h1)⟩)
  | scr ns => obtain ⟨a, rfl, h1⟩ := r; exact go (.inl ⟨h.symm, _, h1.sq⟩)
  | ref n =>
    simp only [typD] at h
    split at h
    · rename_i xs e
      obtain ⟨a, vs, rfl, h1, h2, h3⟩ := place_ok ok e r
      exact go (.inl ⟨h.symm, vs, .inl (.inl h2)⟩)
    · subst h; rcases hT with h | h | h <;> exact absurd h (by decide)
    · subst h; rcases hT with h | h | h <;> exact absurd h (by decide)
  | non => subst h; rcases hT with h | h | h <;> exact absurd h (by simp [typD])
  | bl b => subst h; rcases hT with h | h | h <;> exact absurd h (by simp [typD])
  | adr b => subst h; rcases hT with h | h | h <;> exact absurd h (by simp [typD])
  | tup ds => subst h; rcases hT with h | h | h <;> exact absurd h (by simp [typD])
/-- a method of a built-in type by values -/
def Mt (X : Cx) (id : String) (g : D → List D → M D) : Prop := MtR X id (rMt (md X) g)
def eMeth (T : String) (g : D → List D → M D) (fo : ME) (fs : MA) : ME := fun ρ S => (fo ρ S).bind fun (x, S1) => if typD S1 x = T then (fs ρ S1).bind fun (ds, S2) => g x ds S2 else none
theorem e_bm {T id : String} {g : D → List D → M D} (pa : PlainAttrs T) (slot : Slot T name id) (hty : typeOf (.builtin id) = pure (.type "method_descriptor")) (hm : Mt X id g) (ho : EvE X o fo) (ha : EvA X (e :: es) fs)
    (hT : T = "str" ∨ T = "list" ∨ T = "int" := by first | exact Or.inl rfl | exact Or.inr (Or.inl rfl) | exact Or.inr (Or.inr rfl))
    (hbase : attributeBase o name X.env (eval o X.env) = eval o X.env := by rfl)
    (hfew : ((backTo cpos (starEach (e :: es) X.env)).all (fun x => !x.1) && (backToKw cpos (keywordEach [] X.env)).all (fun x => x.1.isSome)
      && decide ((e :: es).length + ([] : List Keyword).length + (if ([] : List Keyword).isEmpty then 0 else 1) < 30)) = true := by rfl)
    (hline : (apos.endLine == cpos.line) = true := by rfl) (hs : starEach (e :: es) X.env = (false, eval e X.env) :: starEach es X.env := by rfl) (hplain : (backTo cpos (starEach es X.env)).any (·.1) = false := by rfl) :
    EvE X (.Call (.Attribute o name apos) (e :: es) [] cpos) (eMeth T g fo fs) := by
  refine ⟨fun pins s σ H Q I h => ?_⟩
  obtain ⟨W, ρ, d, S', rfl, ok, hρ, he, q⟩ := h
  unfold eMeth at he
  rw [Option.bind_eq_some_iff] at he
  obtain ⟨⟨x, S1⟩, e1, he⟩ := he
  dsimp only at he
  split at he
  · rename_i hx
    rw [Option.bind_eq_some_iff] at he
    obtain ⟨⟨ds, S2⟩, e2, he⟩ := he
    refine wpAny_Call_method_late hbase hfew hline rfl (thn (ho.run pins s σ W.H (fun y H1 => ∃ W1, W1.H = H1 ∧ Stp (md X) W S1 W1 ∧ Rp X.K W1 x y) I ⟨W, ρ, x, S1, rfl, ok, hρ, e1, fun W1 v st r => ⟨W1, rfl, st, r⟩⟩) fun v s1 ⟨y, H1, I1, r1, W1, eW, st, r⟩ => ?_)
    subst eW
    obtain ⟨h1, h2⟩ := typ_ok I1 st.ok r r1 (by rw [st.st]; exact hx) hT
    refine ⟨T, id, pa, slot, hty, h1, h2, ?_⟩
    have hA := ha.run cpos pins s1 σ W1.H (fun zs H2 => ∃ W2, W2.H = H2 ∧ Stp (md X) W1 S2 W2 ∧ Rps X.K W2 ds zs) I1 ⟨W1, ρ, ds, S2, rfl, st.ok, st.ext.rσ hρ, by rw [st.st]; exact e2, fun W2 vs st2 r2 => ⟨W2, rfl, st2, r2⟩⟩
    rw [hs] at hA ⊢
    refine Calls.callWith_builtin (by show (false || (backTo cpos (starEach es X.env)).any (·.1)) = false; rw [hplain] <;> rfl) (Calls.evalArgs_plain ?_)
    refine thn hA fun us s2 ⟨zs, H2, I2, r2, W2, eW2, st2, r3⟩ => ?_
    subst eW2
    exact hm pins s2 σ W2.H y zs v us Q I2 r1 r2 ⟨W2, x, ds, d, S', rfl, st2.ok, st2.ext _ _ r, r3, by rw [st2.st]; exact he, q.step (st.trans st2)⟩
  · cases he
theorem e_bm0 {T id : String} {g : D → List D → M D} (pa : PlainAttrs T) (slot : Slot T name id) (hty : typeOf (.builtin id) = pure (.type "method_descriptor")) (hm : Mt X id g) (ho : EvE X o fo)
    (hT : T = "str" ∨ T = "list" ∨ T = "int" := by first | exact Or.inl rfl | exact Or.inr (Or.inl rfl) | exact Or.inr (Or.inr rfl))
    (hbase : attributeBase o name X.env (eval o X.env) = eval o X.env := by rfl) (hline : (apos.endLine == cpos.line) = true := by rfl) : EvE X (.Call (.Attribute o name apos) [] [] cpos) (eMeth T g fo aNil) := by
  refine ⟨fun pins s σ H Q I h => ?_⟩
  obtain ⟨W, ρ, d, S', rfl, ok, hρ, he, q⟩ := h
  unfold eMeth at he
  rw [Option.bind_eq_some_iff] at he
  obtain ⟨⟨x, S1⟩, e1, he⟩ := he
  dsimp only at he
  split at he
  · rename_i hx
    rw [Option.bind_eq_some_iff] at he
    obtain ⟨⟨ds, S2⟩, e2, he⟩ := he
    cases e2
    refine wpAny_Call_method0_late hbase hline (thn (ho.run pins s σ W.H (fun y H1 => ∃ W1, W1.H = H1 ∧ Stp (md X) W S1 W1 ∧ Rp X.K W1 x y) I ⟨W, ρ, x, S1, rfl, ok, hρ, e1, fun W1 v st r => ⟨W1, rfl, st, r⟩⟩) fun v s1 ⟨y, H1, I1, r1, W1, eW, st, r⟩ => ?_)
    subst eW
    obtain ⟨h1, h2⟩ := typ_ok I1 st.ok r r1 (by rw [st.st]; exact hx) hT
    exact ⟨T, id, pa, slot, hty, h1, h2, Calls.callWith_builtin rfl (PySem.evalArgs_none (hm pins s1 σ W1.H y [] v [] Q I1 r1 .nil ⟨W1, x, [], d, S', rfl, st.ok, r, rfl, by rw [st.st]; exact he, q.step st⟩))⟩
  · cases he
theorem MtR.split {id : String} {r' : V → List V → Hp → VK → Prop} (h : ∀ x xs H Q, r' x xs H Q → ∃ r, MtR X id r ∧ r x xs H Q) : MtR X id r' := fun pins s σ H x xs v us Q I rx rxs q => by
  obtain ⟨r, h1, h2⟩ := h x xs H Q q
  exact h1 pins s σ H x xs v us Q I rx rxs h2
/-- a place's list is written -/
theorem wr_lst {m : Md} {W : Wd} {n : Nat} {a : Addr} {xs ys : List D} {us vs : List V} (ok : Ok m W) (hn : W.μ[n]? = some a) (hS : W.S[n]? = some (.lst xs)) (hH : W.H a = some (.lst us)) (r : Rps m.K W ys vs) :
    Stp m W (W.S.set n (.lst ys)) { W with H := upd W.H a (.lst vs), S := W.S.set n (.lst ys) } :=
  Step.write (c := .lst xs) (c' := .lst ys) ok hn hS (fun z => nomatch z) (fun z => nomatch z) (.lst vs) (fun zs h => by rcases h with h | ⟨ob, h⟩ <;> rw [hH] at h <;> cases h) (fun ob zs h => by rw [hH] at h; cases h) fun e => ⟨vs, upd_same, e.rps r⟩
def mAppend : D → List D → M D := fun x ds S => match x, ds with
  | .ref n, [y] => match S[n]? with
    | some (.lst xs) => if xs.length < sizeLine then some (.non, S.set n (.lst (xs ++ [y]))) else none
    | _ => none
  | _, _ => none
theorem m_append : Mt X "list.append" mAppend := MtR.split fun x xs H Q h => by
  obtain ⟨W, dx, ds, d, S', rfl, ok, rx, rs, he, q⟩ := h
  unfold mAppend at he
  split at he
  · split at he
    · split at he
      · rename_i n y xs e hz
        cases he
        obtain ⟨a, vs, rfl, h1, h2, h3⟩ := place_ok ok e rx
        obtain ⟨v, rfl, r1⟩ := rps_one rs
        have st := wr_lst ok h1 e h2 (h3.append (Rps.one r1))
        exact ⟨_, mt_append, a, vs, v, rfl, rfl, h2, by rw [← h3.length]; exact hz, q _ .non st rfl⟩
      · cases he
    · cases he
  · cases he
def mExtend : D → List D → M D := fun x ds S => match x, ds with
  | .ref n, [y] => match S[n]? with
    | some (.lst xs) => (listOf S y).bind fun ys => if xs.length + ys.length ≤ sizeLine then some (.non, S.set n (.lst (xs ++ ys))) else none
    | _ => none
  | _, _ => none
theorem m_extend : Mt X "list.extend" mExtend := MtR.split fun x xs H Q h => by
  obtain ⟨W, dx, ds, d, S', rfl, ok, rx, rs, he, q⟩ := h
  unfold mExtend at he
  split at he
  · split at he
    · rename_i n y xs e
      rw [Option.bind_eq_some_iff] at he
      obtain ⟨ys, e2, he⟩ := he
      split at he
      · rename_i hz
        cases he
        obtain ⟨a, vs, rfl, h1, h2, h3⟩ := place_ok ok e rx
        obtain ⟨v, rfl, r1⟩ := rps_one rs
        obtain ⟨b, us, rfl, k1, k2⟩ := listOf_ok ok e2 r1
        have st := wr_lst ok h1 e h2 (h3.append k2)
        exact ⟨_, mt_extend, a, b, vs, us, rfl, rfl, h2, k1, by rw [← h3.length, ← k2.length]; exact hz, q _ .non st rfl⟩
      · cases he
    · cases he
  · cases he
def mPop : D → List D → M D := fun x ds S => match x, ds with
  | .ref n, [] => match S[n]? with
    | some (.lst xs) => (xs[xs.length - 1]?).map fun y => (y, S.set n (.lst xs.dropLast))
    | _ => none
  | _, _ => none
theorem m_pop : Mt X "list.pop" mPop := MtR.split fun x xs H Q h => by
  obtain ⟨W, dx, ds, d, S', rfl, ok, rx, rs, he, q⟩ := h
  unfold mPop at he
  split at he
  · split at he
    · rename_i n xs e
      simp only [Option.map_eq_some_iff, Prod.mk.injEq] at he
      obtain ⟨y, e2, rfl, rfl⟩ := he
      obtain ⟨a, vs, rfl, h1, h2, h3⟩ := place_ok ok e rx
      obtain rfl : _ = [] := rs
      obtain ⟨v, k1, k2⟩ := h3.get e2
      have hd : Rps X.K W xs.dropLast vs.dropLast := by
        rw [List.dropLast_eq_take, List.dropLast_eq_take, h3.length]; exact h3.take _
      have st := wr_lst ok h1 e h2 hd
      exact ⟨_, mt_pop, a, vs, v, rfl, rfl, h2, by rw [← h3.length]; exact k1, q _ v st (st.ext _ _ k2)⟩
    · cases he
  · cases he
/-! texts -/
def strsOf : List D → Option (List Str)
  | [] => some []
  | .str b :: r => (strsOf r).map (b :: ·)
  | _ :: _ => none
theorem strsOf_eq : ∀ {ds : List D} {bs : List Str}, strsOf ds = some bs → ds = bs.map D.str
  | [], bs, h => by cases h; rfl
  | d :: ds, bs, h => by
    cases d with
    | str b =>
      simp only [strsOf, Option.map_eq_some_iff] at h
      obtain ⟨r, h, rfl⟩ := h
      rw [strsOf_eq h]; rfl
    | _ => cases h
theorem strsOf_map : ∀ (ns : List Str), strsOf (ns.map D.str) = some ns
  | [] => rfl
  | n :: ns => by rw [List.map_cons, strsOf, strsOf_map ns]; rfl
def mJoin : D → List D → M D := fun x ds S => match x, ds with
  | .str a, [y] => (listOf S y).bind fun xs => (strsOf xs).bind fun ys => if (ys.map (·.length)).sum + ys.length * a.length ≤ 16777216 then some (.str (Txt.join a ys), S) else none
  | _, _ => none
theorem m_join : Mt X "str.join" mJoin := MtR.split fun x xs H Q h => by
  obtain ⟨W, dx, ds, d, S', rfl, ok, rx, rs, he, q⟩ := h
  unfold mJoin at he
  split at he
  · rw [Option.bind_eq_some_iff] at he
    obtain ⟨xs, e1, he⟩ := he
    rw [Option.bind_eq_some_iff] at he
    obtain ⟨ys, e2, he⟩ := he
    split at he
    · rename_i hz
      cases he
      cases rx
      obtain ⟨v, rfl, r1⟩ := rps_one rs
      obtain ⟨a, vs, rfl, h1, h2⟩ := listOf_ok ok e1 r1
      rw [strsOf_eq e2] at h2
      rw [Rps.strs_inv ys vs h2] at h1
      exact ⟨_, mt_join, _, a, ys, rfl, rfl, .inl (.inl (.inl h1)), hz, q.val ok rfl⟩
    · cases he
  · cases he
def mSplit (mu : Bool) : D → List D → M D := fun x ds S => match x, ds with
  | .str a, [.str b] => if (b.length == 0) = false ∧ a.length + 2 ≤ sizeLine then newL mu ((Txt.split a b).map .str) S else none
  | _, _ => none
theorem m_split (mu : Bool) : Mt X "str.split" (mSplit mu) := MtR.split fun x xs H Q h => by
  obtain ⟨W, dx, ds, d, S', rfl, ok, rx, rs, he, q⟩ := h
  unfold mSplit at he
  split at he
  · split at he
    · rename_i hz
      cases rx
      obtain ⟨v, rfl, r1⟩ := rps_one rs
      cases r1
      exact ⟨_, mt_split, _, _, rfl, rfl, hz.1, hz.2, fun p hp => newL_ok he ok (Rps.strs _) hp q⟩
    · cases he
  · cases he
def mCount : D → List D → M D := fun x ds S => match x, ds with
  | .str a, [.str b] => some (.int (Txt.count a b), S)
  | _, _ => none
theorem m_count : Mt X "str.count" mCount := MtR.split fun x xs H Q h => by
  obtain ⟨W, dx, ds, d, S', rfl, ok, rx, rs, he, q⟩ := h
  unfold mCount at he
  split at he
  · cases he
    cases rx
    obtain ⟨v, rfl, r1⟩ := rps_one rs
    cases r1
    exact ⟨_, mt_count, _, _, rfl, rfl, q.val ok rfl⟩
  · cases he
end
end Ev
end L2

namespace L2
namespace Ev
open PyProof.Rows PySem.Spec PySem L2
variable [Tb]

/-! ### dicts as lists of pairs -/
def dGet (kvs : List (D × D)) (k : D) : Option D := (kvs.find? fun p => decide (p.1 = k)).map (·.2)
def dPut (kvs : List (D × D)) (k v : D) : List (D × D) := if (kvs.any fun p => decide (p.1 = k)) = true then kvs.map (fun p => if p.1 = k then (p.1, v) else p) else kvs ++ [(k, v)]
def flatK : D → Bool
  | .int _ => true
  | .str _ => true
  | _ => false
def tupK : D → Bool
  | .tup ds => match nkey (.tup ds) with
    | some n => decide (n.depth ≤ 8)
    | none => false
  | _ => false
/-- the key is of the dict's kind -/
def fitK (kvs : List (D × D)) (k : D) : Bool := match kvs with
  | [] => flatK k || tupK k
  | p :: _ => (flatK k && flatK p.1) || (tupK k && tupK p.1)
theorem flatK_key {k : D} (h : flatK k = true) : ∃ key, k = keyD key := by
  cases k with
  | int i => exact ⟨.inl i, rfl⟩
  | str i => exact ⟨.inr i, rfl⟩
  | _ => cases h
theorem tupK_key {k : D} (h : tupK k = true) : ∃ n es, nkey k = some n ∧ n.depth ≤ 8 ∧ k = .tup es := by
  cases k with
  | tup es =>
    simp only [tupK] at h
    split at h
    · rename_i n e
      exact ⟨n, es, e, of_decide_eq_true h, rfl⟩
    · cases h
  | _ => cases h
theorem keyD_inj {a b : Key} (h : keyD a = keyD b) : a = b := by
  cases a <;> cases b <;> simp [keyD] at h <;> simp [h]
theorem flat_keyD (a : Key) : flatK (keyD a) = true := by cases a <;> rfl
theorem tup_keyD (a : Key) : tupK (keyD a) = false := by cases a <;> rfl
theorem dGet_nil {k : D} : dGet [] k = none := rfl
theorem dGet_cons (p : D × D) (r : List (D × D)) (k : D) : dGet (p :: r) k = if p.1 = k then some p.2 else dGet r k := by
  unfold dGet
  rw [List.find?_cons]
  by_cases h : p.1 = k
  · rw [if_pos h, decide_eq_true h]; rfl
  · rw [if_neg h, decide_eq_false h]
theorem dGet_any (k : D) : ∀ kvs : List (D × D), (kvs.any fun p => decide (p.1 = k)) = (dGet kvs k).isSome
  | [] => rfl
  | p :: r => by
    rw [List.any_cons, dGet_cons, dGet_any k r]
    by_cases h : p.1 = k
    · simp [h]
    · simp [h]
def valN (ks : List (NestedKey × Addr × V)) (n : NestedKey) : Option V := (ks.find? fun p => decide (p.1 = n)).map (·.2.2)
def putN (ks : List (NestedKey × Addr × V)) (n : NestedKey) (b : Addr) (v : V) : List (NestedKey × Addr × V) := if (ks.any fun p => decide (p.1 = n)) = true then ks.map (fun p => if p.1 = n then (p.1, p.2.1, v) else p) else ks ++ [(n, b, v)]
theorem valN_cons (p : NestedKey × Addr × V) (r : List (NestedKey × Addr × V)) (k : NestedKey) : valN (p :: r) k = if p.1 = k then some p.2.2 else valN r k := by
  unfold valN
  rw [List.find?_cons]
  by_cases h : p.1 = k
  · rw [if_pos h, decide_eq_true h]; rfl
  · rw [if_neg h, decide_eq_false h]
section
variable {K : PySem.W.Frag} {W : Wd}
/-- a found value, a lacking one -/
def OptR (K : PySem.W.Frag) (W : Wd) : Option D → Option V → Prop
  | some d, some v => Rp K W d v
  | none, none => True
  | _, _ => False
theorem RkK.get : ∀ {kvs : List (D × D)} {ks : List (Key × V)} (key : Key), RkK K W kvs ks → OptR K W (dGet kvs (keyD key)) (valV ks key)
  | [], _, key, h => by cases h; exact True.intro
  | (k, d) :: r, _, key, h => by
    obtain ⟨key', v, t, rfl, rfl, h1, h2⟩ := h
    rw [dGet_cons]
    by_cases e : key' = key
    · subst e
      rw [if_pos rfl, valV_pos rfl]; exact h1
    · rw [if_neg (fun z => e (keyD_inj z)), valV_neg e]
      exact RkK.get key h2
theorem RkK.length : ∀ {kvs : List (D × D)} {ks : List (Key × V)}, RkK K W kvs ks → kvs.length = ks.length
  | [], _, h => by cases h; rfl
  | (k, d) :: r, _, h => by
    obtain ⟨key', v, t, rfl, rfl, h1, h2⟩ := h
    simp [RkK.length h2]
theorem RkK.map {key : Key} {d : D} {v : V} (hv : Rp K W d v) : ∀ {kvs : List (D × D)} {ks : List (Key × V)}, RkK K W kvs ks → RkK K W (kvs.map fun p => if p.1 = keyD key then (p.1, d) else p) (ks.map fun p => if p.1 = key then (p.1, v) else p)
  | [], _, h => by cases h; exact rfl
  | (k, e) :: r, _, h => by
    obtain ⟨key', u, t, rfl, rfl, h1, h2⟩ := h
    rw [List.map_cons, List.map_cons]
    by_cases e : key' = key
    · subst e
      rw [if_pos rfl, if_pos rfl]
      exact ⟨key', v, _, rfl, rfl, hv, RkK.map hv h2⟩
    · rw [if_neg (fun z => e (keyD_inj z)), if_neg e]
      exact ⟨key', u, _, rfl, rfl, h1, RkK.map hv h2⟩
theorem RkK.snoc {key : Key} {d : D} {v : V} (hv : Rp K W d v) : ∀ {kvs : List (D × D)} {ks : List (Key × V)}, RkK K W kvs ks → RkK K W (kvs ++ [(keyD key, d)]) (ks ++ [(key, v)])
  | [], _, h => by cases h; exact ⟨key, v, [], rfl, rfl, hv, rfl⟩
  | (k, e) :: r, _, h => by
    obtain ⟨key', u, t, rfl, rfl, h1, h2⟩ := h
    exact ⟨key', u, _, rfl, rfl, h1, RkK.snoc hv h2⟩
theorem OptR.isSome {o : Option D} {q : Option V} (h : OptR K W o q) : o.isSome = q.isSome := by
  cases o <;> cases q <;> first | rfl | exact h.elim
theorem RkK.put {key : Key} {d : D} {v : V} {kvs : List (D × D)} {ks : List (Key × V)} (h : RkK K W kvs ks) (hv : Rp K W d v) : RkK K W (dPut kvs (keyD key) d) (putK ks key v) := by
  have e : (kvs.any fun p => decide (p.1 = keyD key)) = (ks.any fun kv => decide (kv.1 = key)) := by
    rw [dGet_any, valV_any]; exact (h.get key).isSome
  unfold dPut putK
  rw [e]
  split
  · exact h.map hv
  · exact h.snoc hv
theorem RkN.get {k : D} {n : NestedKey} (hk : nkey k = some n) : ∀ {kvs : List (D × D)} {ks : List (NestedKey × Addr × V)}, RkN K W kvs ks → OptR K W (dGet kvs k) (valN ks n)
  | [], _, h => by cases h; exact True.intro
  | (k', d) :: r, _, h => by
    obtain ⟨n', b, v, t, rfl, h0, _, _, _, h1, h2⟩ := h
    rw [dGet_cons, valN_cons]
    by_cases e : n' = n
    · subst e
      rw [if_pos (nkey_inj k' k n' h0 hk), if_pos rfl]; exact h1
    · rw [if_neg e, if_neg (fun z => e (by have z : k' = k := z; rw [z, hk] at h0; exact (Option.some.inj h0).symm))]
      exact RkN.get hk h2
theorem RkN.length : ∀ {kvs : List (D × D)} {ks : List (NestedKey × Addr × V)}, RkN K W kvs ks → kvs.length = ks.length
  | [], _, h => by cases h; rfl
  | (k, d) :: r, _, h => by
    obtain ⟨n', b, v, t, rfl, h0, _, _, _, h1, h2⟩ := h
    simp [RkN.length h2]
theorem valN_any (k : NestedKey) : ∀ ks : List (NestedKey × Addr × V), (ks.any fun p => decide (p.1 = k)) = (valN ks k).isSome
  | [] => rfl
  | p :: r => by
    rw [List.any_cons, valN_cons, valN_any k r]
    by_cases h : p.1 = k
    · simp [h]
    · simp [h]
theorem RkN.map {k : D} {n : NestedKey} (hk : nkey k = some n) {d : D} {v : V} (hv : Rp K W d v) : ∀ {kvs : List (D × D)} {ks : List (NestedKey × Addr × V)}, RkN K W kvs ks → RkN K W (kvs.map fun p => if p.1 = k then (p.1, d) else p) (ks.map fun p => if p.1 = n then (p.1, p.2.1, v) else p)
  | [], _, h => by cases h; exact rfl
  | (k', e) :: r, _, h => by
    obtain ⟨n', b, u, t, rfl, h0, g1, g2, g3, h1, h2⟩ := h
    rw [List.map_cons, List.map_cons]
    by_cases e : n' = n
    · subst e
      rw [if_pos (nkey_inj k' k n' h0 hk), if_pos rfl]
      exact ⟨n', b, v, _, rfl, h0, g1, g2, g3, hv, RkN.map hk hv h2⟩
    · rw [if_neg (fun z => e (by have z : k' = k := z; rw [z, hk] at h0; exact (Option.some.inj h0).symm)), if_neg e]
      exact ⟨n', b, u, _, rfl, h0, g1, g2, g3, h1, RkN.map hk hv h2⟩
theorem RkN.snoc {k : D} {n : NestedKey} (hk : nkey k = some n) (hd : n.depth ≤ 8) (ht : ∃ es, k = .tup es) {b : Addr} (hb : Rp K W k (.ref b)) {d : D} {v : V} (hv : Rp K W d v) : ∀ {kvs : List (D × D)} {ks : List (NestedKey × Addr × V)}, RkN K W kvs ks → RkN K W (kvs ++ [(k, d)]) (ks ++ [(n, b, v)])
  | [], _, h => by cases h; exact ⟨n, b, v, [], rfl, hk, hd, ht, hb, hv, rfl⟩
  | (k', e) :: r, _, h => by
    obtain ⟨n', b', u, t, rfl, h0, g1, g2, g3, h1, h2⟩ := h
    exact ⟨n', b', u, _, rfl, h0, g1, g2, g3, h1, RkN.snoc hk hd ht hb hv h2⟩
theorem RkN.put {k : D} {n : NestedKey} (hk : nkey k = some n) (hd : n.depth ≤ 8) (ht : ∃ es, k = .tup es) {b : Addr} (hb : Rp K W k (.ref b)) {d : D} {v : V} (hv : Rp K W d v) {kvs : List (D × D)} {ks : List (NestedKey × Addr × V)} (h : RkN K W kvs ks) : RkN K W (dPut kvs k d) (putN ks n b v) := by
  have e : (kvs.any fun p => decide (p.1 = k)) = (ks.any fun p => decide (p.1 = n)) := by
    rw [dGet_any, valN_any]; exact (h.get hk).isSome
  unfold dPut putN
  rw [e]
  split
  · exact h.map hk hv
  · exact h.snoc hk hd ht hb hv
theorem dPut_length (kvs : List (D × D)) (k v : D) : (dPut kvs k v).length ≤ kvs.length + 1 := by
  unfold dPut
  split
  · rw [List.length_map]; omega
  · rw [List.length_append]; exact Nat.le_refl _
theorem dPut_ne (kvs : List (D × D)) (k v : D) : dPut kvs k v ≠ [] := by
  unfold dPut
  split
  · rename_i h
    cases kvs with
    | nil => cases h
    | cons p r => simp
  · simp
/-! the pairs in the heap -/
theorem KN.val {ks : List (NestedKey × Addr × V)} {xs : List (NestedKey × Addr × Value)} (r : KN ks xs) (n : NestedKey) : RelO (valN ks n) ((atKey xs n).map (·.2)) := by
  induction r with
  | nil => exact True.intro
  | @cons p q ps qs h _ ih =>
    rw [valN_cons]
    unfold atKey
    rw [List.find?_cons, ← h.1]
    by_cases e : p.1 = n
    · rw [if_pos e, decide_eq_true e]; exact h.2.2
    · rw [if_neg e, decide_eq_false e]; exact ih
theorem KN.put {ks : List (NestedKey × Addr × V)} {xs : List (NestedKey × Addr × Value)} (r : KN ks xs) (n : NestedKey) {b : Addr} {v : V} {u : Value} (rv : RelV v u) : KN (putN ks n b v) (storedH xs n b u) := by
  have e : (ks.any fun p => decide (p.1 = n)) = (atKey xs n).isSome := by
    rw [valN_any]
    have := (r.val n).isSome_eq
    rw [Option.isSome_map] at this
    exact this
  have g1 : KN (ks.map fun p => if p.1 = n then (p.1, p.2.1, v) else p) (xs.map (putAt n u)) := by
    clear e
    induction r with
    | nil => exact .nil
    | @cons p q ps qs h _ ih =>
      rw [List.map_cons, List.map_cons]
      refine .cons ?_ ih
      unfold putAt
      rw [← h.1]
      by_cases e : p.1 = n
      · rw [if_pos e, if_pos e]; exact ⟨rfl, h.2.1, rv⟩
      · rw [if_neg e, if_neg e]; exact h
  have g2 : KN (ks ++ [(n, b, v)]) (xs ++ [(n, b, u)]) := by
    clear e g1
    induction r with
    | nil => exact .cons ⟨rfl, rfl, rv⟩ .nil
    | cons h _ ih => exact .cons h ih
  unfold putN storedH
  rw [e]
  split
  · exact g1
  · exact g2
end
section
variable {X : Cx} {pins : List (Addr × Obj)} {σ : St} {s : Shared} {W : Wd}
mutual
/-- a value is the key that it is told to be -/
theorem nested_is (I : Inv X pins σ W.H s) : ∀ (d : D) (v : V) (u : Value) (n : NestedKey), nkey d = some n → Rp X.K W d v → RelV v u → NestedIs s.heap n u
  | .non, v, u, n, h, r, ru => by
    cases h; cases r
    obtain rfl : u = .none := ru
    exact .none
  | .int i, v, u, n, h, r, ru => by
    cases h; cases r
    obtain ⟨t, rfl⟩ := ru
    exact .int i t
  | .str i, v, u, n, h, r, ru => by
    cases h; cases r
    obtain ⟨t, rfl⟩ := ru
    exact .text i t
  | .tup ds, v, u, n, h, r, ru => by
    simp only [nkey, Option.map_eq_some_iff] at h
    obtain ⟨ns, h, rfl⟩ := h
    obtain ⟨a, vs, rfl, h1, h2⟩ := r
    obtain rfl : u = .ref a := ru
    obtain ⟨its, rv, ⟨o, ho, hc, k, hd⟩, _⟩ := I.tuple h1
    exact .tup ho hc hd (by simpa using nested_all I ds vs its ns h h2 rv)
  | .bl _, _, _, _, h, _, _ => by cases h
  | .lst _, _, _, _, h, _, _ => by cases h
  | .ref _, _, _, _, h, _, _ => by cases h
  | .adr _, _, _, _, h, _, _ => by cases h
  | .scr _, _, _, _, h, _, _ => by cases h
theorem nested_all (I : Inv X pins σ W.H s) : ∀ (ds : List D) (vs : List V) (us : List Value) (ns : List NestedKey), nkeys ds = some ns → Rps X.K W ds vs → Vals vs us → NestedAll s.heap ns us
  | [], _, _, _, h, r, ru => by
    cases h; cases r; cases ru
    exact .nil
  | d :: ds, _, _, _, h, r, ru => by
    obtain ⟨v, vs, rfl, h1, h2⟩ := r
    cases ru with
    | cons r1 r2 =>
      simp only [nkeys] at h
      split at h
      · rename_i n ns e1 e2
        cases h
        exact .cons (nested_is I d v _ n e1 h1 r1) (nested_all I ds vs _ ns e2 h2 r2)
      · cases h
end
theorem rkN_is (I : Inv X pins σ W.H s) : ∀ {kvs : List (D × D)} {ks : List (NestedKey × Addr × V)} {xs : List (NestedKey × Addr × Value)}, RkN X.K W kvs ks → KN ks xs → ∀ x ∈ xs, (nestedKind X.prog X.w).is s.heap x.1 x.2.1
  | [], _, _, h, r, x, hx => by cases h; cases r; cases hx
  | (k, d) :: t, _, _, h, r, x, hx => by
    obtain ⟨n', b, u, t, rfl, h0, g1, g2, g3, h1, h2⟩ := h
    cases r with
    | cons r1 r2 =>
      rcases List.mem_cons.mp hx with rfl | hx
      · rw [← r1.1, ← r1.2.1]
        exact ⟨nested_is I k (.ref b) (.ref b) n' h0 g3 rfl, g1⟩
      · exact rkN_is I h2 r2 x hx
/-- the dict's pairs in the heap: keys by value, or tuples -/
inductive HD (X : Cx) (W : Wd) (s : Shared) (a : Addr) (kvs : List (D × D)) : Prop
  | k (ks : List (Key × V)) (vs : List (Key × Value)) (r : RkK X.K W kvs ks) (q : KV ks vs) (d : s.heap.DictOf (mixKind X.prog X.w) a vs)
  | n (ks : List (NestedKey × Addr × V)) (xs : List (NestedKey × Addr × Value)) (ne : kvs ≠ []) (r : RkN X.K W kvs ks) (q : KN ks xs) (d : s.heap.DictOfH (nestedKind X.prog X.w) a xs)
theorem hd_open (I : Inv X pins σ W.H s) {a : Addr} {kvs : List (D × D)} {o : HO} (h : Rd W.H a o) (d : DcOb X.prog X.w X.K W a kvs o) : (a == sysModules) = false ∧ HD X W s a kvs := by
  have ho := h.ok I.hok
  obtain ⟨_, d⟩ := d
  rcases d with ⟨ks, rfl, r⟩ | ⟨ne, ks, rfl, r⟩
  · obtain ⟨_, hs, vs, q, dd⟩ := ho
    exact ⟨hs, .k ks vs r q dd⟩
  · obtain ⟨⟨hs, xs, q, o, es, ep, k1, k2, k3, k4, k5⟩, _, _⟩ := ho
    exact ⟨hs, .n ks xs ne r q ⟨o, es, ep, k1, k2, k3, k4, rkN_is I r q, k5⟩⟩
/-- the empty one as one with tuple keys -/
theorem HD.empty {a : Addr} {kvs : List (D × D)} (h : HD X W s a kvs) (e : kvs = []) : s.heap.DictOfH (nestedKind X.prog X.w) a [] := by
  subst e
  cases h with
  | k ks vs r q d =>
    obtain rfl : ks = [] := r
    cases q
    obtain ⟨o, es, ep, k1, k2, k3, _, k4, _⟩ := d
    refine ⟨o, es, ep, k1, k2, k3, ?_, fun x hx => absurd hx (by simp), by simp⟩
    cases hq : es.toList with
    | nil => rfl
    | cons y ys => rw [hq] at k4; cases k4
  | n ks xs ne r q d => exact absurd rfl ne
theorem HD.head_flat {a : Addr} {p : D × D} {r : List (D × D)} (h : HD X W s a (p :: r)) (hf : flatK p.1 = true) : ∃ ks vs, RkK X.K W (p :: r) ks ∧ KV ks vs ∧ s.heap.DictOf (mixKind X.prog X.w) a vs := by
  cases h with
  | k ks vs r q d => exact ⟨ks, vs, r, q, d⟩
  | n ks xs ne r q d =>
    obtain ⟨n', b, u, t, rfl, h0, g1, ⟨es, g2⟩, _⟩ := r
    rw [g2] at hf; cases hf
theorem HD.head_tup {a : Addr} {p : D × D} {r : List (D × D)} (h : HD X W s a (p :: r)) (hf : tupK p.1 = true) : ∃ ks xs, RkN X.K W (p :: r) ks ∧ KN ks xs ∧ s.heap.DictOfH (nestedKind X.prog X.w) a xs := by
  cases h with
  | k ks vs r q d =>
    obtain ⟨key', v, t, rfl, e, _⟩ := r
    rw [e, tup_keyD] at hf; cases hf
  | n ks xs ne r q d => exact ⟨ks, xs, r, q, d⟩
/-- the two kinds of a look at a key -/
theorem HD.fit {a : Addr} {kvs : List (D × D)} {k : D} (h : HD X W s a kvs) (hf : fitK kvs k = true) :
    (∃ key ks vs, k = keyD key ∧ RkK X.K W kvs ks ∧ KV ks vs ∧ s.heap.DictOf (mixKind X.prog X.w) a vs) ∨
    (∃ n ks xs, nkey k = some n ∧ n.depth ≤ 8 ∧ (∃ es, k = .tup es) ∧ RkN X.K W kvs ks ∧ KN ks xs ∧ s.heap.DictOfH (nestedKind X.prog X.w) a xs) := by
  cases kvs with
  | nil =>
    rcases Bool.or_eq_true _ _ ▸ hf with hf | hf
    · obtain ⟨key, rfl⟩ := flatK_key hf
      cases h with
      | k ks vs r q d => exact .inl ⟨key, ks, vs, rfl, r, q, d⟩
      | n ks xs ne r q d => exact absurd rfl ne
    · obtain ⟨n, es, h1, h2, h3⟩ := tupK_key hf
      exact .inr ⟨n, [], [], h1, h2, ⟨es, h3⟩, rfl, .nil, h.empty rfl⟩
  | cons p r =>
    rcases Bool.or_eq_true _ _ ▸ hf with hf | hf
    · rw [Bool.and_eq_true] at hf
      obtain ⟨key, rfl⟩ := flatK_key hf.1
      obtain ⟨ks, vs, h1, h2, h3⟩ := h.head_flat hf.2
      exact .inl ⟨key, ks, vs, rfl, h1, h2, h3⟩
    · rw [Bool.and_eq_true] at hf
      obtain ⟨n, es, h1, h2, h3⟩ := tupK_key hf.1
      obtain ⟨ks, xs, k1, k2, k3⟩ := h.head_tup hf.2
      exact .inr ⟨n, ks, xs, h1, h2, ⟨es, h3⟩, k1, k2, k3⟩
end
end Ev
end L2

namespace L2
namespace Ev
open PyProof.Rows PySem.Spec PySem L2
variable [Tb]

/-- a place's dict, locked or not -/
def dctOf (S : Store) : D → Option (List (D × D))
  | .ref n => match S[n]? with
    | some (.dct kvs) => some kvs
    | some (.lck kvs) => some kvs
    | _ => none
  | _ => none
section
variable {X : Cx} {pins : List (Addr × Obj)} {σ : St} {s : Shared} {W : Wd} {d : D} {v : V}
theorem dct_at (ok : Ok (md X) W) {kvs : List (D × D)} (h : dctOf W.S d = some kvs) (r : Rp X.K W d v) : ∃ a o, v = .ref a ∧ Rd W.H a o ∧ DcOb X.prog X.w X.K W a kvs o := by
  cases d with
  | ref n =>
    obtain ⟨a, rfl, h1⟩ := r
    simp only [dctOf] at h
    split at h
    · rename_i ks e
      cases h
      obtain ⟨o, h2, h3⟩ := ok.cell n a _ h1 e
      exact ⟨a, o, rfl, .inl h2, h3⟩
    · rename_i ks e
      cases h
      obtain ⟨ob, o, h2, h3⟩ := ok.cell n a _ h1 e
      exact ⟨a, o, rfl, .inr ⟨ob, h2⟩, h3⟩
    · cases h
  | _ => cases h
theorem dct_open (I : Inv X pins σ W.H s) (ok : Ok (md X) W) {kvs : List (D × D)} (h : dctOf W.S d = some kvs) (r : Rp X.K W d v) : ∃ a, v = .ref a ∧ (a == sysModules) = false ∧ kvs.length ≤ sizeLine ∧ HD X W s a kvs := by
  obtain ⟨a, o, e, h1, h2⟩ := dct_at ok h r
  obtain ⟨h3, h4⟩ := hd_open I h1 h2
  exact ⟨a, e, h3, h2.1, h4⟩
theorem HD.typ {a : Addr} {kvs : List (D × D)} (h : HD X W s a kvs) : s.TypeIs (.ref a) "dict" ∧ ∀ b, Value.ref a = .ref b → ∃ ob, s.heap.get? b = some ob ∧ ob.dict = none := by
  cases h with
  | k ks vs r q dd =>
    refine ⟨dd.typeIs, fun b e => ?_⟩
    cases e
    obtain ⟨ob, _, _, h1, h2, _⟩ := dd
    exact ⟨ob, h1, h2.2.1⟩
  | n ks xs ne r q dd =>
    refine ⟨dd.typeIs, fun b e => ?_⟩
    cases e
    obtain ⟨ob, _, _, h1, h2, _⟩ := dd
    exact ⟨ob, h1, h2.2.1⟩
theorem optR_some {K : PySem.W.Frag} {W : Wd} {o : Option D} {q : Option V} {d : D} (h : OptR K W o q) (e : o = some d) : ∃ v, q = some v ∧ Rp K W d v := by
  subst e
  cases q with
  | none => exact h.elim
  | some v => exact ⟨v, rfl, h⟩
theorem keyV_rel {K : PySem.W.Frag} {W : Wd} {key : Key} {y : V} (h : Rp K W (keyD key) y) : y = kV key := by
  cases key with
  | inl i => exact h
  | inr i => exact h
variable {A : Around} {E : Value → Shared → Prop} {k : D} {y : V} {u : Value} {kvs : List (D × D)} {a : Addr}
theorem room8 (hu : A.units + 100 < cLine) : (nestedKind X.prog X.w).room A.in1 := by
  show A.units + 1 + 8 < cLine
  omega
/-- d[k], there -/
theorem hd_get {Q : Value → Shared → Prop} {e : D} (hu : A.units + 100 < cLine) (I : Inv X pins σ W.H s) (hd : HD X W s a kvs) (hf : fitK kvs k = true) (he : dGet kvs k = some e) (ry : Rp X.K W k y) (ru : RelV y u)
    (h : ∀ w' v' s', Inv X pins σ W.H s' → Rp X.K W e v' → RelV v' w' → Q w' s') : wpAny (model X.prog X.w) A (getItem (.ref a) u) Q E s := by
  rcases hd.fit hf with ⟨key, ks, vs, rfl, r, q, dd⟩ | ⟨n, ks, xs, hn, h8, ⟨es, rfl⟩, r, q, dd⟩
  · obtain rfl := keyV_rel ry
    obtain ⟨v, e1, r1⟩ := optR_some (r.get key) he
    obtain ⟨w', hw, rw'⟩ := RelO.some_of (v := v) (o := valueAt vs key) (by rw [← e1]; exact q.val key)
    exact wpAny_getItem_of (kV_is ru) dd.mapOf hw (h w' v _ (I.tok _) r1 rw')
  · obtain ⟨b, vs', rfl, hb, hr⟩ := id ry
    obtain rfl : u = .ref b := ru
    obtain ⟨v, e1, r1⟩ := optR_some (r.get hn) he
    obtain ⟨w', hw, rw'⟩ := RelO.some_of (v := v) (o := (atKey xs n).map (·.2)) (by rw [← e1]; exact q.val n)
    obtain ⟨p, hp, hp2⟩ := Option.map_eq_some_iff.mp hw
    refine wpAny_getItem_heap (room8 hu) ⟨nested_is I _ _ _ n hn ry rfl, h8⟩ dd hp ?_
    rw [hp2]
    exact h w' v _ (I.tok _) r1 rw'
/-- k in d, not in d -/
theorem hd_in {Q : Value → Shared → Prop} (hu : A.units + 100 < cLine) (I : Inv X pins σ W.H s) (hs : (a == sysModules) = false) (hd : HD X W s a kvs) (hf : fitK kvs k = true) (ry : Rp X.K W k y) (ru : RelV y u)
    (h : ∀ s', Inv X pins σ W.H s' → Q (.bool (dGet kvs k).isSome) s') : wpAny (model X.prog X.w) A (compareOp .In u (.ref a)) Q E s := by
  rcases hd.fit hf with ⟨key, ks, vs, rfl, r, q, dd⟩ | ⟨n, ks, xs, hn, h8, ⟨es, rfl⟩, r, q, dd⟩
  · obtain rfl := keyV_rel ry
    refine wpAny_in_of (kV_is ru) hs dd.mapOf ?_
    rw [← (q.val key).isSome_eq, ← (r.get key).isSome]
    exact h _ (I.tok _)
  · obtain ⟨b, vs', rfl, hb, hr⟩ := id ry
    obtain rfl : u = .ref b := ru
    refine wpAny_in_heap (room8 hu) ⟨nested_is I _ _ _ n hn ry rfl, h8⟩ hs dd ?_
    have e := (q.val n).isSome_eq
    rw [Option.isSome_map] at e
    rw [← e, ← (r.get hn).isSome]
    exact h _ (I.tok _)
theorem hd_notIn {Q : Value → Shared → Prop} (hu : A.units + 100 < cLine) (I : Inv X pins σ W.H s) (hs : (a == sysModules) = false) (hd : HD X W s a kvs) (hf : fitK kvs k = true) (ry : Rp X.K W k y) (ru : RelV y u)
    (h : ∀ s', Inv X pins σ W.H s' → Q (.bool (!(dGet kvs k).isSome)) s') : wpAny (model X.prog X.w) A (compareOp .NotIn u (.ref a)) Q E s := by
  rcases hd.fit hf with ⟨key, ks, vs, rfl, r, q, dd⟩ | ⟨n, ks, xs, hn, h8, ⟨es, rfl⟩, r, q, dd⟩
  · obtain rfl := keyV_rel ry
    refine wpAny_notIn_of (kV_is ru) hs dd.mapOf ?_
    rw [← (q.val key).isSome_eq, ← (r.get key).isSome]
    exact h _ (I.tok _)
  · obtain ⟨b, vs', rfl, hb, hr⟩ := id ry
    obtain rfl : u = .ref b := ru
    refine wpAny_notIn_heap (room8 hu) ⟨nested_is I _ _ _ n hn ry rfl, h8⟩ hs dd ?_
    have e := (q.val n).isSome_eq
    rw [Option.isSome_map] at e
    rw [← e, ← (r.get hn).isSome]
    exact h _ (I.tok _)
theorem relO_getD {o : Option V} {q : Option Value} {p : Option D} {dd : D} {dv : V} {du : Value} (h1 : OptR X.K W p o) (h2 : RelO o q) (h3 : Rp X.K W dd dv) (h4 : RelV dv du) : ∃ v', Rp X.K W (p.getD dd) v' ∧ RelV v' (q.getD du) := by
  cases p with
  | none =>
    cases o with
    | none =>
      cases q with
      | none => exact ⟨dv, h3, h4⟩
      | some _ => exact h2.elim
    | some _ => exact h1.elim
  | some e =>
    cases o with
    | none => exact h1.elim
    | some v =>
      cases q with
      | none => exact h2.elim
      | some _ => exact ⟨v, h1, h2⟩
/-- d.get(k, x) -/
theorem hd_get2 {Q : Value → Shared → Prop} {z : V} {zu : Value} {dz : D} (hu : A.units + 100 < cLine) (I : Inv X pins σ W.H s) (hs : (a == sysModules) = false) (hd : HD X W s a kvs) (hf : fitK kvs k = true) (ry : Rp X.K W k y) (ru : RelV y u) (rz : Rp X.K W dz z) (rzu : RelV z zu)
    (h : ∀ w' v' s', Inv X pins σ W.H s' → Rp X.K W ((dGet kvs k).getD dz) v' → RelV v' w' → Q w' s') : wpAny (model X.prog X.w) A (call (.builtin "dict.get") [.ref a, u, zu]) Q E s := by
  rcases hd.fit hf with ⟨key, ks, vs, rfl, r, q, dd⟩ | ⟨n, ks, xs, hn, h8, ⟨es, rfl⟩, r, q, dd⟩
  · obtain rfl := keyV_rel ry
    obtain ⟨v', g1, g2⟩ := relO_getD (r.get key) (q.val key) rz rzu
    exact call_meetsIn PySem.F.slot_dict_get dd.typeIs PySem.F.entry_dict_get (PySem.F.args_dict_get_3 _ _ _) (meets_dict_get_default (mixKind X.prog X.w) a (kV_is ru) hs zu) ⟨_, dd.mapOf, h _ v' _ (I.tok _) g1 g2⟩
  · obtain ⟨b, vs', rfl, hb, hr⟩ := id ry
    obtain rfl : u = .ref b := ru
    obtain ⟨v', g1, g2⟩ := relO_getD (r.get hn) (q.val n) rz rzu
    exact call_meetsIn PySem.F.slot_dict_get dd.typeIs PySem.F.entry_dict_get (PySem.F.args_dict_get_3 _ _ _) (meetsH_dict_get_default (nestedKind X.prog X.w) a b hs zu) ⟨room8 (A := A) hu, n, xs, ⟨nested_is I _ _ _ n hn ry rfl, h8⟩, dd, h _ v' _ (I.tok _) g1 g2⟩
/-- the abstract object of the dict behind a put -/
theorem obN_ok {P : Program} {w : World} {H : Hp} {h' : Heap} {ks : List (NestedKey × Addr × V)} {xs : List (NestedKey × Addr × Value)} (hs : (a == sysModules) = false) (q : KN ks xs) (dd : h'.DictOfH (nestedKind P w) a xs) : ObjOk P w H h' a (ObN P w a ks) := by
  obtain ⟨o, es, ep, k1, k2, k3, k4, _, k5⟩ := dd
  refine ⟨⟨hs, xs, q, o, es, ep, k1, k2, k3, k4, k5⟩, ⟨o, k1⟩, fun h1 h2 hh keep => ?_⟩
  obtain ⟨hs, xs, q, o, es, ep, k1, k2, k3, k4, k5⟩ := hh
  exact ⟨hs, xs, q, o, es, ep, keep o k1, k2, k3, k4, k5⟩
theorem mut_dc {o : HO} (h : DcOb X.prog X.w X.K W a kvs o) : Mut (some o) := by
  obtain ⟨_, h⟩ := h
  rcases h with ⟨ks, rfl, _⟩ | ⟨_, ks, rfl, _⟩ <;> exact True.intro
/-- d[k] = e: the new object -/
theorem hd_set {Q : Unit → Shared → Prop} {e : D} {ev : V} {eu : Value} (hu : A.units + 100 < cLine) (I : Inv X pins σ W.H s) (hs : (a == sysModules) = false) {o : HO} (hH : W.H a = some o) (hO : DcOb X.prog X.w X.K W a kvs o) (hl : kvs.length < sizeLine) (hd : HD X W s a kvs) (hf : fitK kvs k = true) (ry : Rp X.K W k y) (ru : RelV y u) (re : Rp X.K W e ev) (reu : RelV ev eu)
    (h : ∀ o' s', Inv X pins σ (upd W.H a o') s' → DcOb X.prog X.w X.K W a (dPut kvs k e) o' → Q () s') : wpAny (model X.prog X.w) A (setItem (.ref a) u eu) Q E s := by
  have hl' : (dPut kvs k e).length ≤ sizeLine := by have := dPut_length kvs k e; omega
  have mu : Mut (W.H a) := by rw [hH]; exact mut_dc hO
  rcases hd.fit hf with ⟨key, ks, vs, rfl, r, q, dd⟩ | ⟨n, ks, xs, hn, h8, ⟨es, rfl⟩, r, q, dd⟩
  · obtain rfl := keyV_rel ry
    have hz : vs.length ≤ sizeLine := by rw [← q.length, ← r.length]; omega
    refine wpAny_setItem_pairs (hsz := hz) (kV_is ru) dd fun h' dd' hsb => h (.dK (putK ks key ev)) _ ?_ ⟨hl', .inl ⟨_, rfl, r.put re⟩⟩
    have he : ∃ q, h'.get? a = some q := let ⟨q, _, _, hq, _⟩ := dd'; ⟨q, hq⟩
    refine d_write I mu hsb he (dk_new ?_ hs (q.put key reu) dd')
    rw [← (r.put (key := key) re).length]; exact hl'
  · obtain ⟨b, vs', rfl, hb, hr⟩ := id ry
    obtain rfl : u = .ref b := ru
    have hz : xs.length ≤ sizeLine := by rw [← Paired.length q, ← r.length]; omega
    refine wpAny_setItem_heap (hsz := hz) (room8 hu) ⟨nested_is I _ _ _ n hn ry rfl, h8⟩ dd fun h' dd' hsb => h (ObN X.prog X.w a (putN ks n b ev)) _ ?_ ⟨hl', .inr ⟨dPut_ne kvs _ e, _, rfl, r.put hn h8 ⟨es, rfl⟩ ry re⟩⟩
    have he : ∃ q, h'.get? a = some q := let ⟨q, _, _, hq, _⟩ := dd'; ⟨q, hq⟩
    exact d_write I mu hsb he (obN_ok hs (q.put n reu) dd')
/-- the world behind a put -/
theorem wr_dct {n : Nat} {o' : HO} {kvs kvs' : List (D × D)} {o : HO} (ok : Ok (md X) W) (hn : W.μ[n]? = some a) (hS : W.S[n]? = some (.dct kvs)) (hH : W.H a = some o) (hO : DcOb X.prog X.w X.K W a kvs o) (h' : DcOb X.prog X.w X.K W a kvs' o') :
    Stp (md X) W (W.S.set n (.dct kvs')) { W with H := upd W.H a o', S := W.S.set n (.dct kvs') } := by
  have nt : ∀ u, (∀ ks, u ≠ HO.dK ks) → (∀ φ, u ≠ HO.ext φ) → W.H a ≠ some u := fun u h1 h2 z => by
    rw [hH] at z
    obtain rfl := Option.some.inj z
    obtain ⟨_, hO⟩ := hO
    rcases hO with ⟨ks, e, _⟩ | ⟨_, ks, e, _⟩
    · exact h1 ks e
    · exact h2 _ e
  refine Step.write (c := .dct kvs) (c' := .dct kvs') ok hn hS (fun z => nomatch z) (fun z => nomatch z) o' (fun xs z => ?_) (fun ob xs => nt (.frz ob (.lst xs)) (fun _ z => by cases z) (fun _ z => by cases z)) fun e => ⟨o', upd_same, e.dcOb h'⟩
  rcases z with z | ⟨ob, z⟩
  · exact nt (.tup xs) (fun _ z => by cases z) (fun _ z => by cases z) z
  · exact nt (.frz ob (.tup xs)) (fun _ z => by cases z) (fun _ z => by cases z) z
theorem place_dct {n : Nat} (ok : Ok (md X) W) (h : W.S[n]? = some (.dct kvs)) (r : Rp X.K W (.ref n) v) : ∃ a o, v = .ref a ∧ W.μ[n]? = some a ∧ W.H a = some o ∧ DcOb X.prog X.w X.K W a kvs o := by
  obtain ⟨a, rfl, h1⟩ := r
  obtain ⟨o, h2, h3⟩ := ok.cell n a _ h1 h
  exact ⟨a, o, rfl, h1, h2, h3⟩
end

section
variable {X : Cx} {e a b c o i value : Expr} {es : List Expr} {pos pos' apos cpos : Pos} {fa fb fc fo : ME} {fs : MA} {x name : Str} {p : Pos}
/-! ### the operations -/
def strIn (a b : Str) : Bool := !(Builtin.Str.occurrences b a 0 b.length 1).isEmpty
/-- x in y -/
def opIn (neg : Bool) : D → D → M D := fun x y S => match x, y with
  | .str a, .str b => some (.bl (neg != strIn a b), S)
  | x, .tup ys => (py0 x).bind fun p => (py0s ys).bind fun ps => if min (PyData.depthAll ps) p.depth ≤ 100 then some (.bl (neg != ps.any fun z => PyData.eqv z p), S) else none
  | x, y => match dctOf S y with
    | some kvs => if fitK kvs x = true then some (.bl (neg != (dGet kvs x).isSome), S) else none
    | none => (py1 S x).bind fun p => match py2 S y with
      | some (.list ps) => if min (PyData.depthAll ps) p.depth ≤ 100 then some (.bl (neg != ps.any fun z => PyData.eqv z p), S) else none
      | _ => none
theorem o_in (hu : X.A.units + 190 < cLine) : Op2 X (compareOp .In) (opIn false) := fun pins s σ H x y v u Q I hx hy h => by
  obtain ⟨W, dx, dy, d, S', rfl, ok, rx, ry, he, q⟩ := h
  have fb : ∀ b : Bool, (false != b) = b := fun b => by cases b <;> rfl
  unfold opIn at he
  split at he
  · cases he; cases rx; cases ry
    rw [fb] at q
    exact op_in_str pins s σ W.H _ _ v u Q I hx hy ⟨_, _, rfl, rfl, q.val ok rfl⟩
  · rw [Option.bind_eq_some_iff] at he
    obtain ⟨p, h1, he⟩ := he
    rw [Option.bind_eq_some_iff] at he
    obtain ⟨ps, h2, he⟩ := he
    split at he
    · rename_i ys hz
      cases he
      rw [fb] at q
      obtain ⟨as, r1⟩ := Dp.reads I p x v (py0_dp _ _ _ h1 rx) hx
      have h3 : py0 (.tup ys) = some (.tuple ps) := by rw [py0, h2]; rfl
      obtain ⟨bs, r2⟩ := Dp.reads I (.tuple ps) y u (py0_dp _ _ _ h3 ry) hy
      exact SeqAt.in_tuple_data r2 r1 (py0s_plain _ _ h2) (py0_plain _ _ h1) (by omega) ⟨.bl _, W.H, I, rfl, q.val ok rfl⟩
    · cases he
  · split at he
    · rename_i kvs hk
      split at he
      · rename_i hf
        cases he
        rw [fb] at q
        obtain ⟨a, rfl, hs, _, hd⟩ := dct_open I ok hk ry
        obtain rfl : u = .ref a := hy
        exact hd_in (by omega) I hs hd hf rx hx fun s' I' => ⟨.bl _, W.H, I', rfl, q.val ok rfl⟩
      · cases he
    · rw [Option.bind_eq_some_iff] at he
      obtain ⟨p, h1, he⟩ := he
      split at he
      · rename_i ps h2
        split at he
        · rename_i hz
          cases he
          rw [fb] at q
          obtain ⟨a1, a2⟩ := py1_dp ok dx x p h1 rx
          obtain ⟨b1, b2⟩ := py2_dp ok dy y _ h2 ry
          obtain ⟨as, r1⟩ := Dp.reads I p x v a1 hx
          obtain ⟨bs, r2⟩ := Dp.reads I (.list ps) y u b1 hy
          exact SeqAt.in_list_data r2 r1 b2 a2 (by omega) ⟨.bl _, W.H, I, rfl, q.val ok rfl⟩
        · cases he
      · cases he
theorem o_notIn (hu : X.A.units + 190 < cLine) : Op2 X (compareOp .NotIn) (opIn true) := fun pins s σ H x y v u Q I hx hy h => by
  obtain ⟨W, dx, dy, d, S', rfl, ok, rx, ry, he, q⟩ := h
  have fb : ∀ b : Bool, (true != b) = !b := fun b => by cases b <;> rfl
  unfold opIn at he
  split at he
  · cases he; cases rx; cases ry
    rw [fb] at q
    exact op_notin_str pins s σ W.H _ _ v u Q I hx hy ⟨_, _, rfl, rfl, q.val ok rfl⟩
  · rw [Option.bind_eq_some_iff] at he
    obtain ⟨p, h1, he⟩ := he
    rw [Option.bind_eq_some_iff] at he
    obtain ⟨ps, h2, he⟩ := he
    split at he
    · rename_i ys hz
      cases he
      rw [fb] at q
      obtain ⟨as, r1⟩ := Dp.reads I p x v (py0_dp _ _ _ h1 rx) hx
      have h3 : py0 (.tup ys) = some (.tuple ps) := by rw [py0, h2]; rfl
      obtain ⟨bs, r2⟩ := Dp.reads I (.tuple ps) y u (py0_dp _ _ _ h3 ry) hy
      exact SeqAt.notIn_tuple_data r2 r1 (py0s_plain _ _ h2) (py0_plain _ _ h1) (by omega) ⟨.bl _, W.H, I, rfl, q.val ok rfl⟩
    · cases he
  · split at he
    · rename_i kvs hk
      split at he
      · rename_i hf
        cases he
        rw [fb] at q
        obtain ⟨a, rfl, hs, _, hd⟩ := dct_open I ok hk ry
        obtain rfl : u = .ref a := hy
        exact hd_notIn (by omega) I hs hd hf rx hx fun s' I' => ⟨.bl _, W.H, I', rfl, q.val ok rfl⟩
      · cases he
    · rw [Option.bind_eq_some_iff] at he
      obtain ⟨p, h1, he⟩ := he
      split at he
      · rename_i ps h2
        split at he
        · rename_i hz
          cases he
          rw [fb] at q
          obtain ⟨a1, a2⟩ := py1_dp ok dx x p h1 rx
          obtain ⟨b1, b2⟩ := py2_dp ok dy y _ h2 ry
          obtain ⟨as, r1⟩ := Dp.reads I p x v a1 hx
          obtain ⟨bs, r2⟩ := Dp.reads I (.list ps) y u b1 hy
          exact SeqAt.notIn_list_data r2 r1 b2 a2 (by omega) ⟨.bl _, W.H, I, rfl, q.val ok rfl⟩
        · cases he
      · cases he
theorem opIn_bl {neg : Bool} : ∀ x y S d S', opIn neg x y S = some (d, S') → ∃ k, d = .bl k := fun x y S d S' he => by
  unfold opIn at he
  split at he
  · cases he; exact ⟨_, rfl⟩
  · rw [Option.bind_eq_some_iff] at he
    obtain ⟨p, h1, he⟩ := he
    rw [Option.bind_eq_some_iff] at he
    obtain ⟨ps, h2, he⟩ := he
    split at he
    · cases he; exact ⟨_, rfl⟩
    · cases he
  · split at he
    · split at he
      · cases he; exact ⟨_, rfl⟩
      · cases he
    · rw [Option.bind_eq_some_iff] at he
      obtain ⟨p, h1, he⟩ := he
      split at he
      · split at he
        · cases he; exact ⟨_, rfl⟩
        · cases he
      · cases he
/-- d[k] -/
def opDget : D → D → M D := fun x y S => (dctOf S x).bind fun kvs => if fitK kvs y = true then (dGet kvs y).map (·, S) else none
theorem e_dget (hu : X.A.units + 190 < cLine) (ho : EvE X o fa) (hi : EvE X i fb) (hs : NoSl i := by exact fun _ _ => rfl) : EvE X (.Subscript o i pos) (eBin opDget fa fb) := by
  refine ⟨fun pins s σ H Q I h => ?_⟩
  have h := bin_go h
  refine subD_of PySem.F.slot_dict_getitem.lookup hs (thn (ho.run pins s σ H _ I h) fun u s1 ⟨x, H1, I1, rx, q1⟩ => thn (hi.run pins s1 σ H1 _ I1 q1) fun iv s2 ⟨y, H2, I2, ry, W, dx, dy, d, S', eW, ok, r1, r2, he, q⟩ => ?_)
  subst eW
  unfold opDget at he
  rw [Option.bind_eq_some_iff] at he
  obtain ⟨kvs, h1, he⟩ := he
  split at he
  · rename_i hf
    simp only [Option.map_eq_some_iff, Prod.mk.injEq] at he
    obtain ⟨e', h2, rfl, rfl⟩ := he
    obtain ⟨a, rfl, hss, _, hd⟩ := dct_open I2 ok h1 r1
    obtain rfl : u = .ref a := rx
    exact ⟨hd.typ.1, hd_get (by omega) I2 hd hf h2 r2 ry fun w' v' s' I' g1 g2 => ⟨v', W.H, I', g2, q.val ok g1⟩⟩
  · cases he
/-- d[k] = v -/
def stDput (x y v : D) : Store → Option Store := fun S => match x with
  | .ref n => match S[n]? with
    | some (.dct kvs) => if fitK kvs y = true ∧ kvs.length < sizeLine then some (S.set n (.dct (dPut kvs y v))) else none
    | _ => none
  | _ => none
def sDput (fo fi fv : ME) : MS := fun ρ S => (fv ρ S).bind fun (v, S1) => (fo ρ S1).bind fun (x, S2) => (fi ρ S2).bind fun (y, S3) => (stDput x y v S3).map fun S4 => .nx ρ S4
theorem s_dput {fi fv : ME} (hu : X.A.units + 190 < cLine) (ho : EvE X o fo) (hi : EvE X i fi) (hv : EvE X value fv) (hs : swapsWith value (some (.Subscript o i pos')) pos.line X.env = pure false := by rfl) :
    EvS X (.Assign [.Subscript o i pos'] value pos) (sDput fo fi fv) := by
  refine ⟨fun pins s σ H E I h => ?_⟩
  obtain ⟨W, ρ, r, rfl, ok, hρ, he, q⟩ := h
  unfold sDput at he
  rw [Option.bind_eq_some_iff] at he
  obtain ⟨⟨v, S1⟩, e1, he⟩ := he
  rw [Option.bind_eq_some_iff] at he
  obtain ⟨⟨x, S2⟩, e2, he⟩ := he
  rw [Option.bind_eq_some_iff] at he
  obtain ⟨⟨y, S3⟩, e3, he⟩ := he
  simp only [Option.map_eq_some_iff] at he
  obtain ⟨S4, e4, rfl⟩ := he
  refine wpAny_Assign_Subscript (thn (hv.run pins s σ W.H (fun z H1 => ∃ W1, W1.H = H1 ∧ Stp (md X) W S1 W1 ∧ Rp X.K W1 v z) I ⟨W, ρ, v, S1, rfl, ok, hρ, e1, fun W1 z st r => ⟨W1, rfl, st, r⟩⟩) fun eu s1 ⟨ev, H1, I1, reu, W1, eW1, st1, rv⟩ => ?_) hs
  subst eW1
  refine thn (ho.run pins s1 σ W1.H (fun z H1 => ∃ W2, W2.H = H1 ∧ Stp (md X) W1 S2 W2 ∧ Rp X.K W2 x z) I1 ⟨W1, ρ, x, S2, rfl, st1.ok, st1.ext.rσ hρ, by rw [st1.st]; exact e2, fun W1 z st r => ⟨W1, rfl, st, r⟩⟩) fun u s2 ⟨xv, H2, I2, rx, W2, eW2, st2, rxv⟩ => ?_
  subst eW2
  refine thn (hi.run pins s2 σ W2.H (fun z H1 => ∃ W3, W3.H = H1 ∧ Stp (md X) W2 S3 W3 ∧ Rp X.K W3 y z) I2 ⟨W2, ρ, y, S3, rfl, st2.ok, (st1.trans st2).ext.rσ hρ, by rw [st2.st]; exact e3, fun W1 z st r => ⟨W1, rfl, st, r⟩⟩) fun iu s3 ⟨yv, H3, I3, ryu, W3, eW3, st3, ryv⟩ => ?_
  subst eW3
  have st := st1.trans (st2.trans st3)
  unfold stDput at e4
  split at e4
  · split at e4
    · split at e4
      · rename_i n kvs eS hf
        cases e4
        rw [← st3.st] at eS
        obtain ⟨a, o', rfl, hn, hH, hO⟩ := place_dct st3.ok eS (st3.ext _ _ rxv)
        obtain rfl : u = .ref a := rx
        obtain ⟨hss, hd⟩ := hd_open I3 (.inl hH) hO
        refine hd_set (by omega) I3 hss hH hO hf.2 hd hf.1 ryv ryu ((st2.trans st3).ext _ _ rv) reu fun o2 s4 I4 h2 => ?_
        have st4 := wr_dct st3.ok hn eS hH hO h2
        exact ⟨σ, _, I4, q _ σ (by have := st.trans st4; rw [← st3.st]; exact this) ((st.trans st4).ext.rσ hρ)⟩
      · cases e4
    · cases e4
  · cases e4
end
end Ev
end L2

namespace L2
namespace Ev
open PyProof.Rows PySem.Spec PySem L2
variable [Tb]

section
variable {X : Cx} {pins : List (Addr × Obj)} {σ : St} {s : Shared} {W : Wd} {d : D} {v : V}
/-! ### a dict's entries in a row -/
theorem RkK.idx {K : PySem.W.Frag} : ∀ {kvs : List (D × D)} {ks : List (Key × V)} {i : Nat} {p : Key × V}, RkK K W kvs ks → ks[i]? = some p → ∃ e, kvs[i]? = some (keyD p.1, e) ∧ Rp K W e p.2
  | [], _, i, p, h, e => by cases h; simp at e
  | (k, d) :: r, _, i, p, h, e => by
    obtain ⟨key, v, t, rfl, rfl, h1, h2⟩ := h
    cases i with
    | zero => simp at e; subst e; exact ⟨d, rfl, h1⟩
    | succ i => simpa using RkK.idx h2 (by simpa using e)
theorem RkN.idx {K : PySem.W.Frag} : ∀ {kvs : List (D × D)} {ks : List (NestedKey × Addr × V)} {i : Nat} {p : NestedKey × Addr × V}, RkN K W kvs ks → ks[i]? = some p → ∃ k e, kvs[i]? = some (k, e) ∧ Rp K W k (.ref p.2.1) ∧ Rp K W e p.2.2
  | [], _, i, p, h, e => by cases h; simp at e
  | (k, d) :: r, _, i, p, h, e => by
    obtain ⟨n, b, v, t, rfl, _, _, _, h1, h2, h3⟩ := h
    cases i with
    | zero => simp at e; subst e; exact ⟨k, d, rfl, h1, h2⟩
    | succ i => simpa using RkN.idx h3 (by simpa using e)
theorem kv_idx {ks : List (Key × V)} {vs : List (Key × Value)} (r : KV ks vs) : ∀ {i : Nat} {q : Key × Value}, vs[i]? = some q → ∃ v, ks[i]? = some (q.1, v) ∧ RelV v q.2 := by
  induction r with
  | nil => intro i q e; simp at e
  | @cons a b as bs h _ ih =>
    intro i q e
    cases i with
    | zero =>
      simp at e; subst e
      obtain ⟨a1, a2⟩ := a
      obtain ⟨e1, e2⟩ := h
      dsimp only at e1; subst e1
      exact ⟨a2, rfl, e2⟩
    | succ i => simpa using ih (by simpa using e)
theorem kn_idx {ks : List (NestedKey × Addr × V)} {vs : List (NestedKey × Addr × Value)} (r : KN ks vs) : ∀ {i : Nat} {q : NestedKey × Addr × Value}, vs[i]? = some q → ∃ v, ks[i]? = some (q.1, q.2.1, v) ∧ RelV v q.2.2 := by
  induction r with
  | nil => intro i q e; simp at e
  | @cons a b as bs h _ ih =>
    intro i q e
    cases i with
    | zero =>
      simp at e; subst e
      obtain ⟨a1, a2, a3⟩ := a
      obtain ⟨e1, e2, e3⟩ := h
      dsimp only at e1 e2; subst e1; subst e2
      exact ⟨a3, rfl, e3⟩
    | succ i => simpa using ih (by simpa using e)
/-- a value of the walk and its own -/
def Is (K : PySem.W.Frag) (W : Wd) (d : D) (u : Value) : Prop := ∃ v, Rp K W d v ∧ RelV v u
theorem HD.raw {a : Addr} {kvs : List (D × D)} (h : HD X W s a kvs) : ∃ es ep, s.heap.DictRaw a es ep ∧ es.size = kvs.length ∧ ∀ i (hi : i < es.size), ∃ p, kvs[i]? = some p ∧ Is X.K W p.1 es[i].key ∧ Is X.K W p.2 es[i].val := by
  cases h with
  | k ks vs r q d =>
    obtain ⟨es, ep, h1, h2, h3⟩ := d.raw
    refine ⟨es, ep, h1, by rw [h2, ← q.length, ← r.length], fun i hi => ?_⟩
    have hv : i < vs.length := by rw [← h2]; exact hi
    obtain ⟨e1, e2⟩ := h3 i hi vs[i].1 vs[i].2 (List.getElem?_eq_getElem hv)
    obtain ⟨v, g1, g2⟩ := kv_idx q (List.getElem?_eq_getElem hv)
    obtain ⟨e, k1, k2⟩ := r.idx g1
    refine ⟨_, k1, ⟨kV vs[i].1, ?_, ?_⟩, ⟨v, k2, by rw [e2]; exact g2⟩⟩
    · show Rp X.K W (keyD vs[i].1) (kV vs[i].1)
      cases vs[i].1 <;> rfl
    · rcases keyIs_shape (show keyIs vs[i].1 es[i].key = true from e1) with ⟨j, t, z1, z2⟩ | ⟨j, t, z1, z2⟩
      · rw [z1, z2]; exact ⟨t, rfl⟩
      · rw [z1, z2]; exact ⟨t, rfl⟩
  | n ks xs ne r q d =>
    obtain ⟨es, ep, h1, h2, h3⟩ := d.raw
    refine ⟨es, ep, h1, by rw [h2, ← Paired.length q, ← r.length], fun i hi => ?_⟩
    obtain ⟨y, e0, e1, e2, _⟩ := h3 i hi
    obtain ⟨v, g1, g2⟩ := kn_idx q e0
    obtain ⟨k, e, k1, k2, k3⟩ := r.idx g1
    exact ⟨_, k1, ⟨.ref y.2.1, k2, by rw [e1]; exact rfl⟩, ⟨v, k3, by rw [e2]; exact g2⟩⟩
/-- rows of values -/
theorem is_row {K : PySem.W.Frag} : ∀ {us : List Value} {ds : List D}, us.length = ds.length → (∀ (j : Nat) (u : Value), us[j]? = some u → ∃ d, ds[j]? = some d ∧ Is K W d u) → ∃ vs, Rps K W ds vs ∧ Vals vs us
  | [], [], _, _ => ⟨[], rfl, .nil⟩
  | u :: us, d :: ds, hl, h => by
    obtain ⟨d', e, v, h1, h2⟩ := h 0 u rfl
    have e : d = d' := Option.some.inj e
    subst e
    obtain ⟨vs, g1, g2⟩ := is_row (us := us) (ds := ds) (by simpa using hl) fun j w e => by simpa using h (j + 1) w (by simpa using e)
    exact ⟨v :: vs, ⟨v, vs, rfl, h1, g1⟩, .cons h2 g2⟩
  | [], _ :: _, hl, _ => by simp at hl
  | _ :: _, [], hl, _ => by simp at hl
theorem is_each {K : PySem.W.Frag} : ∀ {ds : List D} {vs : List V} {us : List Value}, Rps K W ds vs → Vals vs us → PySem.W.EachIs (fun u d => Is K W d u) us ds
  | [], _, _, r, q => by cases r; cases q; exact .nil
  | d :: ds, _, _, r, q => by
    obtain ⟨v, vs, rfl, h1, h2⟩ := r
    cases q with
    | cons q1 q2 => exact .cons ⟨v, h1, q1⟩ (is_each h2 q2)
theorem each_is {K : PySem.W.Frag} : ∀ {ds : List D} {us : List Value}, PySem.W.EachIs (fun u d => Is K W d u) us ds → ∃ vs, Rps K W ds vs ∧ Vals vs us
  | [], _, h => by cases h; exact ⟨[], rfl, .nil⟩
  | d :: ds, _, h => by
    cases h with
    | cons h1 h2 =>
      obtain ⟨v, g1, g2⟩ := h1
      obtain ⟨vs, k1, k2⟩ := each_is h2
      exact ⟨v :: vs, ⟨v, vs, rfl, g1, k1⟩, .cons g2 k2⟩

/-! ### order -/
def ordK (x : D) : PyData := (py0 x).getD .none
def tupC : D → Bool
  | .tup (_ :: _) => true
  | _ => false
def notTN : D → Bool
  | .tup _ => false
  | .non => false
  | _ => true
def sortOk (ks : List D) : Bool := (ks.all fun d => (py0 d).isSome && decide ((ordK d).depth ≤ 50)) && (ks.all fun a => ks.all fun b => PySem.W.alike (ordK a) (ordK b)) && (ks.all tupC || ks.all notTN)
def leD (a b : D) : Bool := !PySem.W.dataLt (ordK b) (ordK a)
theorem sortOk_of {ks : List D} (h : sortOk ks = true) : (∀ d ∈ ks, py0 d = some (ordK d) ∧ (ordK d).depth ≤ 50) ∧ PySem.W.AllAlike (ks.map ordK) ∧ PySem.W.Sortable (ks.map ordK) := by
  unfold sortOk at h
  rw [Bool.and_eq_true, Bool.and_eq_true] at h
  obtain ⟨⟨h1, h2⟩, h3⟩ := h
  have g : ∀ d ∈ ks, py0 d = some (ordK d) ∧ (ordK d).depth ≤ 50 := fun d hd => by
    have z := List.all_eq_true.mp h1 d hd
    rw [Bool.and_eq_true] at z
    obtain ⟨p, hp⟩ := Option.isSome_iff_exists.mp z.1
    exact ⟨by unfold ordK; rw [hp]; rfl, of_decide_eq_true z.2⟩
  refine ⟨g, fun x hx y hy => ?_, ?_⟩
  · obtain ⟨a, ha, rfl⟩ := List.mem_map.mp hx
    obtain ⟨b, hb, rfl⟩ := List.mem_map.mp hy
    exact List.all_eq_true.mp (List.all_eq_true.mp h2 a ha) b hb
  · rcases Bool.or_eq_true _ _ ▸ h3 with h3 | h3
    · refine .inl fun x hx => ?_
      obtain ⟨a, ha, rfl⟩ := List.mem_map.mp hx
      have z := List.all_eq_true.mp h3 a ha
      have y := (g a ha).1
      cases a with
      | tup ds =>
        cases ds with
        | nil => cases z
        | cons b r =>
          rw [py0] at y
          simp only [Option.map_eq_some_iff] at y
          obtain ⟨ps, y1, y2⟩ := y
          rw [← y2]
          simp only [py0s] at y1
          split at y1
          · cases y1; exact ⟨_, _, rfl⟩
          · cases y1
      | _ => cases z
    · refine .inr fun x hx => ?_
      obtain ⟨a, ha, rfl⟩ := List.mem_map.mp hx
      have z := List.all_eq_true.mp h3 a ha
      have y := (g a ha).1
      cases a with
      | tup ds => cases z
      | non => cases z
      | lst ds =>
        rw [py0] at y
        simp only [Option.map_eq_some_iff] at y
        obtain ⟨ps, y1, y2⟩ := y
        rw [← y2]
        exact ⟨fun e => (nomatch e), fun xs e => (nomatch e)⟩
      | bl _ => rw [py0] at y; rw [← Option.some.inj y]; exact ⟨fun e => (nomatch e), fun xs e => (nomatch e)⟩
      | int _ => rw [py0] at y; rw [← Option.some.inj y]; exact ⟨fun e => (nomatch e), fun xs e => (nomatch e)⟩
      | str _ => rw [py0] at y; rw [← Option.some.inj y]; exact ⟨fun e => (nomatch e), fun xs e => (nomatch e)⟩
      | scr _ => rw [py0] at y; rw [← Option.some.inj y]; exact ⟨fun e => (nomatch e), fun xs e => (nomatch e)⟩
      | _ => rw [py0] at y; cases y
/-- the items read as data -/
theorem is_reads (I : Inv X pins σ W.H s) : ∀ {us : List Value} {ds : List D}, (∀ d ∈ ds, py0 d = some (ordK d) ∧ (ordK d).depth ≤ 50) → PySem.W.EachIs (fun u d => Is X.K W d u) us ds → PySem.W.EachIs (fun u d => ∃ as, PySem.Reads s.heap u (ordK d) as) us ds
  | _, [], _, h => by cases h; exact .nil
  | _, d :: ds, g, h => by
    cases h with
    | cons h1 h2 =>
      obtain ⟨v, r1, r2⟩ := h1
      refine .cons ?_ (is_reads I (fun e he => g e (List.mem_cons_of_mem _ he)) h2)
      obtain ⟨as, z⟩ := Dp.reads I (ordK d) v _ (py0_dp (m := md X) d v _ (g d List.mem_cons_self).1 r1) r2
      exact ⟨as, z⟩
/-- what sorted, list, tuple go over -/
def itemsOf (S : Store) (x : D) : Option (List D) := match dctOf S x with
  | some kvs => some (kvs.map (·.1))
  | none => readOf S x
def fSorted (mu : Bool) : List D → M D := fun ds S => match ds with
  | [x] => (itemsOf S x).bind fun ks => if sortOk ks = true then newL mu (ks.mergeSort leD) S else none
  | _ => none
theorem f_sorted (hc : X.calm = true) (hu : X.A.units + 190 < cLine) (mu : Bool) : Bf X (.builtin "sorted") (fSorted mu) := fun pins s σ H xs us Q I r h => by
  obtain ⟨W, ds, d, S', rfl, ok, rs, he, q⟩ := h
  unfold fSorted at he
  split at he
  · rename_i x
    rw [Option.bind_eq_some_iff] at he
    obtain ⟨ks, e1, he⟩ := he
    split at he
    · rename_i hso
      obtain ⟨hk1, hk2, hk3⟩ := sortOk_of hso
      have hlen := newL_len he
      rw [List.length_mergeSort] at hlen
      obtain ⟨v, rfl, r1⟩ := rps_one rs
      obtain ⟨u, rfl, ru⟩ := vals1 r
      have hun : ∀ b, b ∈ ks → X.A.units + 2 + (ordK b).depth < cLine := fun b hb => by have := (hk1 b hb).2; omega
      have hle : PySem.W.dataLe false ordK = leD := rfl
      unfold itemsOf at e1
      split at e1
      · rename_i kvs hk
        cases e1
        obtain ⟨a, rfl, hs, hz, hd⟩ := dct_open I ok hk r1
        obtain rfl : u = .ref a := ru
        obtain ⟨es, ep, g1, g2, g3⟩ := hd.raw
        refine Calls.call_function_entry PyProof.Rows.kind_sorted PyProof.Rows.plain_sorted PyProof.Rows.entry_sorted (PyProof.Rows.args_sorted1 _) ?_
        unfold Builtin.«sorted»
        refine wpAny_bind (m := checkCount "sorted" 1 1 _) (wpAny_pure ?_)
        refine wpAny_bind (PySem.W.kdu_collect (A := X.A.in1) (KdlSrc.rawDict hs) (I.ok.hd hc) g1 (by omega) fun h' tk acc hk' hacc => ?_)
        have hal : acc.toList.length = (kvs.map (·.1)).length := by rw [Array.length_toList, hacc.1, g2, List.length_map]
        have I1 : Inv X pins σ W.H { s with heap := h', toks := tk } := I.kept hk'
        obtain ⟨vs, k1, k2⟩ := is_row (K := X.K) (W := W) hal fun j u e => by
          obtain ⟨hi, rfl⟩ := hacc.2 j u (by rw [← Array.getElem?_toList]; exact e)
          obtain ⟨p, z1, z2, _⟩ := g3 j hi
          exact ⟨p.1, by rw [List.getElem?_map, z1]; rfl, z2⟩
        refine wpAny_bind (wpAny_newList ?_ (by rw [hal]; exact hlen))
        have hoL : (h'.push (seqObj "list" acc.toList.toArray 0)).get? h'.objs.size = some (seqObj "list" acc.toList.toArray 0) := Heap.get?_push_size _ rfl
        show wpAny _ _ _ _ _ { s with heap := h'.push (seqObj "list" acc.toList.toArray 0), toks := tk }
        have keep : ∀ (out : List Value) b u, h'.get? b = some u → (PyProof.Rows.sortedHeap (h'.push (seqObj "list" acc.toList.toArray 0)) h'.objs.size acc.toList out.toArray).get? b = some u := fun out b u e => by
          have hb : b < h'.objs.size := Heap.lt_size e
          rw [PyProof.Rows.sortedHeap_old (Nat.ne_of_lt hb) (by rw [size_push']; exact Nat.lt_succ_of_lt hb)]
          exact Heap.get?_push_of_some _ e
        have e0 := is_each k1 k2
        have keep2 : ∀ b u, h'.get? b = some u → (PySem.W.sortingHeap (h'.push (seqObj "list" acc.toList.toArray 0)) h'.objs.size acc.toList).get? b = some u := fun b u e => by
          have hb : b < h'.objs.size := Heap.lt_size e
          exact PySem.W.sortingHeap_old (Nat.ne_of_lt hb) (Heap.get?_push_of_some _ e)
        have I2 : Inv X pins σ W.H { s with heap := PySem.W.sortingHeap (h'.push (seqObj "list" acc.toList.toArray 0)) h'.objs.size acc.toList, toks := tk } := I1.kept (s := { s with heap := h', toks := tk }) keep2
        have er := is_reads I2 hk1 e0
        refine wpAny_bind (wpAny_holding (wpAny_call_entry PyProof.Rows.slot_list_sort ⟨_, hoL, rfl⟩ PyProof.Rows.entry_list_sort
          (PySem.W.list_sort_vals (κ := PySem.W.dataKind (PySem.W.sortingHeap (h'.push (seqObj "list" acc.toList.toArray 0)) h'.objs.size acc.toList) ((kvs.map (·.1)).map ordK)) hoL
            (PySem.W.SortsAt.data (s := { s with heap := PySem.W.sortingHeap (h'.push (seqObj "list" acc.toList.toArray 0)) h'.objs.size acc.toList, toks := tk }) (PySem.W.each_map (R := fun v d => ∃ as, PySem.Reads _ v d as) ordK er) hk2 hk3 (PySem.W.bound_map hun)) (by rw [hal]; exact hlen) ⟨_, rfl, ?_⟩)
          (PyProof.Rows.args_list_sort _)))
        have ez := PySem.W.sortVals_data (h' := PySem.W.sortingHeap (h'.push (seqObj "list" acc.toList.toArray 0)) h'.objs.size acc.toList) false e0 er hk2
        rw [hle] at ez
        obtain ⟨ws, w1, w2⟩ := each_is ez
        obtain ⟨c, hc'⟩ := PyProof.Rows.sortedHeap_at (vs := acc.toList) (out := (PySem.W.sortVals (PySem.W.dataKind (PySem.W.sortingHeap (h'.push (seqObj "list" acc.toList.toArray 0)) h'.objs.size acc.toList) ((kvs.map (·.1)).map ordK)) false acc.toList acc.toList).toArray) hoL
        refine wpAny_pure ⟨_, rfl, .ref h'.objs.size, upd W.H h'.objs.size (.lst ws), I1.laid (t' := tk) (keep _) (Nat.le_refl _)
          (show ObjOk X.prog X.w _ _ _ (.lst ws) from ⟨by rw [← w1.length, List.length_mergeSort]; exact hlen, _, c, w2, hc'⟩), rfl, newL_ok he ok w1 (I1.hok.fresh (Nat.le_refl _)) q⟩
      · obtain ⟨a, vs, rfl, h1, h2⟩ := readOf_ok ok e1 r1
        obtain rfl : u = .ref a := ru
        obtain ⟨its, rv, hl, _⟩ := I.list h1
        have e0 := is_each h2 rv
        refine PySem.W.sorted_data (vs := its) (R := fun u d => Is X.K W d u) (enc := ordK) (let ⟨o, n, z1, z2, _, z3⟩ := hl; ⟨o, z1, z2, n, z3⟩) e0 (is_reads I hk1 e0) hk2 hk3 hlen hun fun out ho eo => ?_
        rw [hle] at eo
        obtain ⟨ws, w1, w2⟩ := each_is eo
        obtain ⟨c, hc'⟩ := PyProof.Rows.sortedAll_at s.heap its (List.toArray out)
        exact ⟨.ref (s.heap.objs.size + 1), upd W.H (s.heap.objs.size + 1) (.lst ws), I.laid (t' := s.toks) (fun b u e => PyProof.Rows.sortedAll_old e) (Nat.le_succ _)
          (show ObjOk X.prog X.w _ _ _ (.lst ws) from ⟨by rw [← w1.length, List.length_mergeSort]; exact hlen, out, c, w2, hc'⟩), rfl, newL_ok he ok w1 (I.hok.fresh (Nat.le_succ _)) q⟩
    · cases he
  · cases he
end
end Ev
end L2

namespace L2
namespace Ev
open PyProof.Rows PySem.Spec PySem L2
variable [Tb]

/-- a new dict -/
def newD (kvs : List (D × D)) : M D := fun S => some (.ref S.length, S ++ [.dct kvs])
theorem newD_ok {m : Md} {W : Wd} {Q : VK} {p : Addr} {o : HO} {kvs : List (D × D)} (ok : Ok m W) (hp : W.H p = none) (ho : DcOb m.P m.w m.K W p kvs o) (q : Pst m W (W.S ++ [.dct kvs]) (.ref W.S.length) Q) : Q (.ref p) (upd W.H p o) := by
  have st : Stp m W (W.S ++ [Cell.dct kvs]) { W with H := upd W.H p o, μ := W.μ ++ [p], S := W.S ++ [Cell.dct kvs] } := Step.alloc ok hp o (.dct kvs) fun e => ⟨o, upd_same, e.dcOb ho⟩
  refine q _ (.ref p) st ⟨p, rfl, ?_⟩
  show (W.μ ++ [p])[W.S.length]? = some p
  rw [← ok.len, List.getElem?_append_right (Nat.le_refl _), Nat.sub_self]; rfl
section
variable {X : Cx} {pos : Pos}
def eDnew : ME := fun _ S => newD [] S
theorem e_dnew : EvE X (.Dict [] [] pos) eDnew := PE.imp pe_dnewK fun σ H Q => by
  rintro ⟨W, ρ, d, S', rfl, ok, hρ, he, q⟩ p hp
  unfold eDnew newD at he
  obtain ⟨rfl, rfl⟩ : D.ref W.S.length = d ∧ W.S ++ [Cell.dct []] = S' := by
    have := Option.some.inj he
    exact ⟨congrArg Prod.fst this, congrArg Prod.snd this⟩
  exact newD_ok (kvs := []) ok hp ⟨Nat.zero_le _, .inl ⟨[], rfl, rfl⟩⟩ q
end
end Ev
end L2

namespace L2
namespace Ev
open PyProof.Rows PySem.Spec PySem L2
variable [Tb]

theorem room_un {k : Nat} {A : Around} (h : Room k A) : A.units + 190 < cLine := by have := h.un; omega
theorem opEq_bl {neg : Bool} : ∀ x y S d S', opEq neg x y S = some (d, S') → ∃ k, d = .bl k := fun x y S d S' h => by
  unfold opEq at h
  rw [Option.bind_eq_some_iff] at h
  obtain ⟨a, _, h⟩ := h
  rw [Option.bind_eq_some_iff] at h
  obtain ⟨b, _, h⟩ := h
  split at h
  · cases h; exact ⟨_, rfl⟩
  · cases h
theorem opLt_bl : ∀ x y S d S', opLt x y S = some (d, S') → ∃ k, d = .bl k := fun x y S d S' h => by
  unfold opLt at h; split at h <;> cases h; exact ⟨_, rfl⟩
theorem opLe_bl : ∀ x y S d S', opLe x y S = some (d, S') → ∃ k, d = .bl k := fun x y S d S' h => by
  unfold opLe at h; split at h <;> cases h; exact ⟨_, rfl⟩
theorem opGt_bl : ∀ x y S d S', opGt x y S = some (d, S') → ∃ k, d = .bl k := fun x y S d S' h => by
  unfold opGt at h; split at h <;> cases h; exact ⟨_, rfl⟩
theorem opGe_bl : ∀ x y S d S', opGe x y S = some (d, S') → ∃ k, d = .bl k := fun x y S d S' h => by
  unfold opGe at h; split at h <;> cases h; exact ⟨_, rfl⟩
theorem opIs_bl {neg : Bool} : ∀ x y S d S', opIs neg x y S = some (d, S') → ∃ k, d = .bl k := fun x y S d S' h => by
  unfold opIs at h; split at h <;> cases h <;> exact ⟨_, rfl⟩
section
variable {X : Cx} {e a b c o i value tg : Expr} {es : List Expr} {pos pos' apos cpos : Pos} {fa fb fc fo fi fv : ME} {fs : MA} {x name : Str} {p : Pos}
/-- a list or a tuple, walked -/
def iSeq (f : ME) : MI := fun ρ S => (f ρ S).bind fun (x, S1) => match x with
  | .tup xs => some ((xs, gYes), S1)
  | x => (readOf S1 x).map fun xs => ((xs, gOf x xs), S1)
theorem i_seq (h : EvE X e fa) : EvI X tg e (iSeq fa) := ⟨fun pins s σ H R I q => by
  obtain ⟨W, ρ, ds, g, S', hW, ok, hρ, he, q⟩ := q
  have he' := he
  unfold iSeq at he
  rw [Option.bind_eq_some_iff] at he
  obtain ⟨⟨x, S1⟩, e1, he⟩ := he
  dsimp only at he
  split at he
  · rename_i xs
    refine (i_tup (tg := tg) h).run pins s σ H R I ⟨W, ρ, ds, g, S', hW, ok, hρ, ?_, q⟩
    unfold iTupD; rw [e1]; exact he
  · refine (i_list (tg := tg) h).run pins s σ H R I ⟨W, ρ, ds, g, S', hW, ok, hρ, ?_, q⟩
    unfold iLst; rw [e1]; exact he⟩
/-- x[i] of a list, a tuple, a text, a dict -/
def opSub2 : D → D → M D := fun x y S => match dctOf S x with
  | some kvs => if fitK kvs y = true then (dGet kvs y).map (·, S) else none
  | none => opIx x y S
theorem e_sub (hu : X.A.units + 190 < cLine) (ha : EvE X a fa) (hb : EvE X b fb) (hs : PlainIx b := by exact fun _ _ => rfl) (hs' : NoSl b := by exact fun _ _ => rfl) : EvE X (.Subscript a b pos) (eBin opSub2 fa fb) := ⟨fun pins s σ H Q I q => by
  obtain ⟨W, ρ, d, S', hW, ok, hρ, he, q⟩ := q
  have he' := he
  unfold eBin at he
  rw [Option.bind_eq_some_iff] at he
  obtain ⟨⟨x, S1⟩, e1, he⟩ := he
  rw [Option.bind_eq_some_iff] at he
  obtain ⟨⟨y, S2⟩, e2, he⟩ := he
  unfold opSub2 at he
  dsimp only at he
  split at he
  · rename_i kvs hk
    refine (e_dget (pos := pos) hu ha hb hs').run pins s σ H Q I ⟨W, ρ, d, S', hW, ok, hρ, ?_, q⟩
    unfold eBin; rw [e1]; simp only [Option.bind_some]; rw [e2]; simp only [Option.bind_some]; unfold opDget; rw [hk]; exact he
  · refine (e_ix (pos := pos) ha hb hs).run pins s σ H Q I ⟨W, ρ, d, S', hW, ok, hρ, ?_, q⟩
    unfold eBin; rw [e1]; simp only [Option.bind_some]; rw [e2]; exact he⟩
/-- x[i] = v of a list, a dict -/
def stPut (x y v : D) : Store → Option Store := fun S => match x with
  | .ref n => match S[n]? with
    | some (.dct kvs) => if fitK kvs y = true ∧ kvs.length < sizeLine then some (S.set n (.dct (dPut kvs y v))) else none
    | some (.lst xs) => match y with
      | .int k => (ixN xs.length k).map fun j => S.set n (.lst (xs.set j v))
      | _ => none
    | _ => none
  | _ => none
def sPut (fo fi fv : ME) : MS := fun ρ S => (fv ρ S).bind fun (v, S1) => (fo ρ S1).bind fun (x, S2) => (fi ρ S2).bind fun (y, S3) => (stPut x y v S3).map fun S4 => .nx ρ S4
theorem s_put (hu : X.A.units + 190 < cLine) (ho : EvE X o fo) (hi : EvE X i fi) (hv : EvE X value fv) (hs : swapsWith value (some (.Subscript o i pos')) pos.line X.env = pure false := by rfl) :
    EvS X (.Assign [.Subscript o i pos'] value pos) (sPut fo fi fv) := by
  refine ⟨fun pins s σ H E I h => ?_⟩
  obtain ⟨W, ρ, r, rfl, ok, hρ, he, q⟩ := h
  unfold sPut at he
  rw [Option.bind_eq_some_iff] at he
  obtain ⟨⟨v, S1⟩, e1, he⟩ := he
  rw [Option.bind_eq_some_iff] at he
  obtain ⟨⟨x, S2⟩, e2, he⟩ := he
  rw [Option.bind_eq_some_iff] at he
  obtain ⟨⟨y, S3⟩, e3, he⟩ := he
  simp only [Option.map_eq_some_iff] at he
  obtain ⟨S4, e4, rfl⟩ := he
  refine wpAny_Assign_Subscript (thn (hv.run pins s σ W.H (fun z H1 => ∃ W1, W1.H = H1 ∧ Stp (md X) W S1 W1 ∧ Rp X.K W1 v z) I ⟨W, ρ, v, S1, rfl, ok, hρ, e1, fun W1 z st r => ⟨W1, rfl, st, r⟩⟩) fun eu s1 ⟨ev, H1, I1, reu, W1, eW1, st1, rv⟩ => ?_) hs
  subst eW1
  refine thn (ho.run pins s1 σ W1.H (fun z H1 => ∃ W2, W2.H = H1 ∧ Stp (md X) W1 S2 W2 ∧ Rp X.K W2 x z) I1 ⟨W1, ρ, x, S2, rfl, st1.ok, st1.ext.rσ hρ, by rw [st1.st]; exact e2, fun W1 z st r => ⟨W1, rfl, st, r⟩⟩) fun u s2 ⟨xv, H2, I2, rx, W2, eW2, st2, rxv⟩ => ?_
  subst eW2
  refine thn (hi.run pins s2 σ W2.H (fun z H1 => ∃ W3, W3.H = H1 ∧ Stp (md X) W2 S3 W3 ∧ Rp X.K W3 y z) I2 ⟨W2, ρ, y, S3, rfl, st2.ok, (st1.trans st2).ext.rσ hρ, by rw [st2.st]; exact e3, fun W1 z st r => ⟨W1, rfl, st, r⟩⟩) fun iu s3 ⟨yv, H3, I3, ryu, W3, eW3, st3, ryv⟩ => ?_
  subst eW3
  have st := st1.trans (st2.trans st3)
  unfold stPut at e4
  split at e4
  · split at e4
    · split at e4
      · rename_i n kvs eS hf
        cases e4
        rw [← st3.st] at eS
        obtain ⟨a, o', rfl, hn, hH, hO⟩ := place_dct st3.ok eS (st3.ext _ _ rxv)
        obtain rfl : u = .ref a := rx
        obtain ⟨hss, hd⟩ := hd_open I3 (.inl hH) hO
        refine hd_set (by omega) I3 hss hH hO hf.2 hd hf.1 ryv ryu ((st2.trans st3).ext _ _ rv) reu fun o2 s4 I4 h2 => ?_
        have st4 := wr_dct st3.ok hn eS hH hO h2
        exact ⟨σ, _, I4, q _ σ (by have := st.trans st4; rw [← st3.st]; exact this) ((st.trans st4).ext.rσ hρ)⟩
      · cases e4
    · split at e4
      · rename_i n _ _ xs eS _ k _
        simp only [Option.map_eq_some_iff] at e4
        obtain ⟨j, hj, rfl⟩ := e4
        rw [← st3.st] at eS
        obtain ⟨a, vs, rfl, hn, hH, hr⟩ := place_ok st3.ok eS (st3.ext _ _ rxv)
        cases ryv
        have st4 := wr_lst st3.ok hn eS hH (hr.set ((st2.trans st3).ext _ _ rv) j)
        refine thn (set_list pins s3 σ W3.H (.ref a) (.int k) ev u iu eu (fun H' => H' = upd W3.H a (.lst (vs.set j ev))) I3 rx ryu reu ⟨a, vs, k, j, rfl, rfl, hH, by rw [← hr.length]; exact hj, rfl⟩) fun _ s4 ⟨H4, I4, e4⟩ => ?_
        subst e4
        exact ⟨σ, _, I4, q _ σ (by have := st.trans st4; rw [← st3.st]; exact this) ((st.trans st4).ext.rσ hρ)⟩
      · cases e4
    · cases e4
  · cases e4
end
end Ev
end L2

namespace L2
namespace Ev
open PyProof.Rows PySem.Spec PySem L2
variable [Tb]
/-- the law's own start -/
theorem law_startT {m : Md} {g : List D → M D} {H : Hp} {a : Addr} {ns : List Int} {E : XK} (hT : LamX.Tabs Tb.T H) (hS : SqL m.K H a (ns.map V.int)) (h : ∃ S', g [.scr ns] [] = some (.bl true, S')) : spD m 1 g [.ref a] H (fun v _ => v = .bl true) E := by
  obtain ⟨S', h⟩ := h
  refine ⟨⟨H, [], [], []⟩, [.scr ns], .bl true, S', rfl, ⟨rfl, fun i j b c d h1 => ?_, fun n b c h1 => ?_, fun b hb => ?_, fun n b c h1 => ?_, ⟨hT, fun b hb => ?_⟩⟩, ⟨.ref a, [], rfl, ⟨a, rfl, ?_⟩, rfl⟩, rfl, h, fun W' v st r => r⟩
  · simp at h1
  · simp at h1
  · simp at hb
  · simp at h1
  · simp at hb
  · rcases hS with hS | hS
    · rcases hS with hS | ⟨o, hS⟩
      · exact .inr ⟨hS, by simp, fun n c h1 => by simp at h1⟩
      · exact .inl (.inl ⟨o, hS⟩)
    · exact .inl (.inr hS)
/-- .. without tables -/
theorem law_start {m : Md} {g : List D → M D} {H : Hp} {a : Addr} {ns : List Int} {E : XK} (hO : Only H) (hS : SqL m.K H a (ns.map V.int)) (h : ∃ S', g [.scr ns] [] = some (.bl true, S')) (hT : Tb.T = [] := by rfl) : spD m 1 g [.ref a] H (fun v _ => v = .bl true) E :=
  law_startT (by rw [hT]; exact fun p hp => by cases hp) hS h
end Ev
end L2

namespace L2
namespace Ev
open PyProof.Rows PySem.Spec PySem L2
variable [Tb]
/-! ### a def's meaning told in plain words: places of its own forgotten -/
mutual
def D.low (n : Nat) : D → Bool
  | .tup ds => D.lows n ds
  | .lst ds => D.lows n ds
  | .ref k => decide (k < n)
  | _ => true
def D.lows (n : Nat) : List D → Bool
  | [] => true
  | d :: ds => D.low n d && D.lows n ds
end
def Cell.low (n : Nat) : Cell → Prop
  | .lst xs => D.lows n xs = true
  | .dct kvs => ∀ p ∈ kvs, D.low n p.1 = true ∧ D.low n p.2 = true
  | .lck kvs => ∀ p ∈ kvs, D.low n p.1 = true ∧ D.low n p.2 = true
  | .ins _ fs => ∀ p ∈ fs, D.low n p.2 = true
  | .dead => True
mutual
theorem D.low_mono {n k : Nat} (h : n ≤ k) : ∀ d : D, D.low n d = true → D.low k d = true
  | .tup ds, e => by simp only [D.low] at *; exact D.lows_mono h ds e
  | .lst ds, e => by simp only [D.low] at *; exact D.lows_mono h ds e
  | .ref i, e => by simp only [D.low, decide_eq_true_eq] at *; omega
  | .non, _ => rfl
  | .bl _, _ => rfl
  | .int _, _ => rfl
  | .str _, _ => rfl
  | .adr _, _ => rfl
  | .scr _, _ => rfl
theorem D.lows_mono {n k : Nat} (h : n ≤ k) : ∀ d : List D, D.lows n d = true → D.lows k d = true
  | [], _ => rfl
  | d :: ds, e => by
    simp only [D.lows, Bool.and_eq_true] at *
    exact ⟨D.low_mono h d e.1, D.lows_mono h ds e.2⟩
end
section
variable {K : PySem.W.Frag} {W W' : Wd} {n : Nat}
mutual
theorem rp_low : ∀ (d : D) (v : V), Rp K W d v → D.low W.μ.length d = true
  | .tup ds, v, h => by obtain ⟨a, vs, _, _, h⟩ := h; simp only [D.low]; exact rps_low ds vs h
  | .lst ds, v, h => by obtain ⟨a, vs, _, _, _, h⟩ := h; simp only [D.low]; exact rps_low ds vs h
  | .ref i, v, h => by obtain ⟨a, _, h⟩ := h; simp only [D.low, decide_eq_true_eq]; exact (List.getElem?_eq_some_iff.mp h).1
  | .non, _, _ => rfl
  | .bl _, _, _ => rfl
  | .int _, _, _ => rfl
  | .str _, _, _ => rfl
  | .adr _, _, _ => rfl
  | .scr _, _, _ => rfl
theorem rps_low : ∀ (d : List D) (v : List V), Rps K W d v → D.lows W.μ.length d = true
  | [], _, _ => rfl
  | d :: ds, _, h => by
    obtain ⟨v, r, rfl, h1, h2⟩ := h
    simp only [D.lows, Bool.and_eq_true]
    exact ⟨rp_low d v h1, rps_low ds r h2⟩
end
theorem rfs_low : ∀ (fs : List (Str × D)) (vs : List (Str × V)), Rfs K W fs vs → ∀ p ∈ fs, D.low W.μ.length p.2 = true
  | [], _, _, p, hp => by cases hp
  | (f, d) :: fs, _, h, p, hp => by
    obtain ⟨v, r, rfl, h1, h2⟩ := h
    rcases List.mem_cons.mp hp with rfl | hp
    · exact rp_low d v h1
    · exact rfs_low fs r h2 p hp
theorem rkK_low : ∀ {fs : List (D × D)} {vs : List (Key × V)}, RkK K W fs vs → ∀ p ∈ fs, D.low W.μ.length p.1 = true ∧ D.low W.μ.length p.2 = true
  | [], _, _, p, hp => by cases hp
  | (f, d) :: fs, _, h, p, hp => by
    obtain ⟨key, v, r, rfl, rfl, h1, h2⟩ := h
    rcases List.mem_cons.mp hp with rfl | hp
    · refine ⟨?_, rp_low d v h1⟩
      cases key <;> rfl
    · exact rkK_low h2 p hp
theorem rkN_low : ∀ {fs : List (D × D)} {vs : List (NestedKey × Addr × V)}, RkN K W fs vs → ∀ p ∈ fs, D.low W.μ.length p.1 = true ∧ D.low W.μ.length p.2 = true
  | [], _, _, p, hp => by cases hp
  | (f, d) :: fs, _, h, p, hp => by
    obtain ⟨n, b, v, r, rfl, _, _, _, h0, h1, h2⟩ := h
    rcases List.mem_cons.mp hp with rfl | hp
    · exact ⟨rp_low f _ h0, rp_low d v h1⟩
    · exact rkN_low h2 p hp
theorem dcOb_low {P : Program} {w : World} {a : Addr} {kvs : List (D × D)} {o : HO} (h : DcOb P w K W a kvs o) : ∀ p ∈ kvs, D.low W.μ.length p.1 = true ∧ D.low W.μ.length p.2 = true := by
  obtain ⟨_, ⟨ks, _, h⟩ | ⟨_, ks, _, h⟩⟩ := h
  · exact rkK_low h
  · exact rkN_low h
theorem cell_low {P : Program} {w : World} {a : Addr} {c : Cell} (h : CellOk P w K W a c) : Cell.low W.μ.length c := by
  cases c with
  | lst xs => obtain ⟨vs, _, h⟩ := h; exact rps_low xs vs h
  | dct kvs => obtain ⟨o, _, h⟩ := h; exact dcOb_low h
  | lck kvs => obtain ⟨ob, o, _, h⟩ := h; exact dcOb_low h
  | ins C fs => obtain ⟨dx, vs, _, h⟩ := h; exact rfs_low fs vs h
  | dead => trivial
theorem Cell.low_mono {n k : Nat} (h : n ≤ k) {c : Cell} (e : Cell.low n c) : Cell.low k c := by
  cases c with
  | lst xs => exact D.lows_mono h xs e
  | dct kvs => exact fun p hp => ⟨D.low_mono h _ (e p hp).1, D.low_mono h _ (e p hp).2⟩
  | lck kvs => exact fun p hp => ⟨D.low_mono h _ (e p hp).1, D.low_mono h _ (e p hp).2⟩
  | ins C fs => exact fun p hp => D.low_mono h _ (e p hp)
  | dead => trivial
/-- the world without the places from n on -/
def Wd.cut (W : Wd) (n : Nat) : Wd := { W with μ := W.μ.take n, S := W.S.take n }
theorem fz_cut {W : Wd} {n : Nat} {a : Addr} (h2 : Fz W a) : Fz (W.cut n) a := by
  refine ⟨h2.1, fun k c g1 g2 => h2.2 k c ?_ ?_⟩
  · have g1 : (W.μ.take n)[k]? = some a := g1
    rw [List.getElem?_take] at g1
    split at g1
    · exact g1
    · cases g1
  · have g2 : (W.S.take n)[k]? = some c := g2
    rw [List.getElem?_take] at g2
    split at g2
    · exact g2
    · cases g2
mutual
theorem rp_cutW : ∀ (d : D) (v : V), D.low n d = true → Rp K W d v → Rp K (W.cut n) d v
  | .tup ds, v, l, h => by obtain ⟨a, vs, e, h1, h⟩ := h; simp only [D.low] at l; exact ⟨a, vs, e, h1, rps_cutW ds vs l h⟩
  | .lst ds, v, l, h => by
    obtain ⟨a, vs, e, h1, h2, h⟩ := h; simp only [D.low] at l
    exact ⟨a, vs, e, h1, fz_cut h2, rps_cutW ds vs l h⟩
  | .ref i, v, l, h => by
    obtain ⟨a, e, h⟩ := h
    simp only [D.low, decide_eq_true_eq] at l
    refine ⟨a, e, ?_⟩
    show (W.μ.take n)[i]? = some a
    rw [List.getElem?_take, if_pos l]; exact h
  | .non, _, _, h => h
  | .bl _, _, _, h => h
  | .int _, _, _, h => h
  | .str _, _, _, h => h
  | .adr _, _, _, h => h
  | .scr _, _, _, h => by
    obtain ⟨a, e, h⟩ := h
    refine ⟨a, e, ?_⟩
    rcases h with h | h
    · exact .inl h
    · exact .inr ⟨h.1, fz_cut h.2⟩
theorem rps_cutW : ∀ (d : List D) (v : List V), D.lows n d = true → Rps K W d v → Rps K (W.cut n) d v
  | [], _, _, h => h
  | d :: ds, _, l, h => by
    obtain ⟨v, r, rfl, h1, h2⟩ := h
    simp only [D.lows, Bool.and_eq_true] at l
    exact ⟨v, r, rfl, rp_cutW d v l.1 h1, rps_cutW ds r l.2 h2⟩
end
theorem rfs_cut : ∀ (fs : List (Str × D)) (vs : List (Str × V)), (∀ p ∈ fs, D.low n p.2 = true) → Rfs K W fs vs → Rfs K (W.cut n) fs vs
  | [], _, _, h => h
  | (f, d) :: fs, _, l, h => by
    obtain ⟨v, r, rfl, h1, h2⟩ := h
    exact ⟨v, r, rfl, rp_cutW d v (l _ List.mem_cons_self) h1, rfs_cut fs r (fun p hp => l p (List.mem_cons_of_mem _ hp)) h2⟩
theorem rkK_cut : ∀ {fs : List (D × D)} {vs : List (Key × V)}, (∀ p ∈ fs, D.low n p.1 = true ∧ D.low n p.2 = true) → RkK K W fs vs → RkK K (W.cut n) fs vs
  | [], _, _, h => h
  | (f, d) :: fs, _, l, h => by
    obtain ⟨key, v, r, rfl, rfl, h1, h2⟩ := h
    exact ⟨key, v, r, rfl, rfl, rp_cutW d v (l _ List.mem_cons_self).2 h1, rkK_cut (fun p hp => l p (List.mem_cons_of_mem _ hp)) h2⟩
theorem rkN_cut : ∀ {fs : List (D × D)} {vs : List (NestedKey × Addr × V)}, (∀ p ∈ fs, D.low n p.1 = true ∧ D.low n p.2 = true) → RkN K W fs vs → RkN K (W.cut n) fs vs
  | [], _, _, h => h
  | (f, d) :: fs, _, l, h => by
    obtain ⟨m, b, v, r, rfl, g1, g2, g3, h0, h1, h2⟩ := h
    exact ⟨m, b, v, r, rfl, g1, g2, g3, rp_cutW f _ (l _ List.mem_cons_self).1 h0, rp_cutW d v (l _ List.mem_cons_self).2 h1, rkN_cut (fun p hp => l p (List.mem_cons_of_mem _ hp)) h2⟩
theorem dcOb_cut {P : Program} {w : World} {a : Addr} {kvs : List (D × D)} {o : HO} (l : ∀ p ∈ kvs, D.low n p.1 = true ∧ D.low n p.2 = true) (h : DcOb P w K W a kvs o) : DcOb P w K (W.cut n) a kvs o := by
  obtain ⟨z, ⟨ks, e, h⟩ | ⟨ne, ks, e, h⟩⟩ := h
  · exact ⟨z, .inl ⟨ks, e, rkK_cut l h⟩⟩
  · exact ⟨z, .inr ⟨ne, ks, e, rkN_cut l h⟩⟩
theorem cell_cut {P : Program} {w : World} {a : Addr} {c : Cell} (l : Cell.low n c) (h : CellOk P w K W a c) : CellOk P w K (W.cut n) a c := by
  cases c with
  | lst xs => obtain ⟨vs, e, h⟩ := h; exact ⟨vs, e, rps_cutW xs vs l h⟩
  | dct kvs => obtain ⟨o, e, h⟩ := h; exact ⟨o, e, dcOb_cut l h⟩
  | lck kvs => obtain ⟨ob, o, e, h⟩ := h; exact ⟨ob, o, e, dcOb_cut l h⟩
  | ins C fs => obtain ⟨dx, vs, e, h⟩ := h; exact ⟨dx, vs, e, rfs_cut fs vs l h⟩
  | dead => trivial
end
/-- p tells what g does, but for places of g's own -/
def Refines (g p : List D → M D) : Prop := ∀ ds S d S1, p ds S = some (d, S1) → g ds S = some (d, S1) ∨
  ∃ new j, S1 = S ++ new ∧ g ds S = some (d, S1 ++ j) ∧ D.low S1.length d = true ∧ ∀ c ∈ new, Cell.low S1.length c
theorem Stp.cut {m : Md} {W W' : Wd} {new j : Store} (ok : Ok m W) (st : Stp m W (W.S ++ new ++ j) W') (hc : ∀ c ∈ new, Cell.low (W.S ++ new).length c) : Stp m W (W.S ++ new) (W'.cut (W.S ++ new).length) := by
  have eS : W'.S = W.S ++ new ++ j := st.st
  have lenW : W.μ.length = W.S.length := ok.len
  have getμ : ∀ {k : Nat} {a : Addr}, (W'.cut (W.S ++ new).length).μ[k]? = some a → k < (W.S ++ new).length ∧ W'.μ[k]? = some a := fun {k a} h => by
    have h : (W'.μ.take _)[k]? = some a := h
    rw [List.getElem?_take] at h
    split at h
    · exact ⟨by assumption, h⟩
    · cases h
  have getS : ∀ {k : Nat} {c : Cell}, (W'.cut (W.S ++ new).length).S[k]? = some c → k < (W.S ++ new).length ∧ W'.S[k]? = some c ∧ (W.S ++ new)[k]? = some c := fun {k c} h => by
    have h : (W'.S.take _)[k]? = some c := h
    rw [List.getElem?_take] at h
    split at h
    · rename_i hk
      refine ⟨hk, h, ?_⟩
      rw [eS, List.getElem?_append_left hk] at h
      exact h
    · cases h
  refine ⟨fun d v r => ?_, ⟨?_, fun i k a c d h1 h2 h3 h4 => ?_, fun k a c h1 h2 => ?_, st.ok.hid, fun k a c h1 h2 => ?_, ⟨st.ok.tab.tabs, st.ok.tab.pl⟩⟩, ?_, st.hid, st.keep⟩
  · exact rp_cutW d v (D.low_mono (by rw [lenW, List.length_append]; omega) d (rp_low d v r)) (st.ext d v r)
  · show (W'.μ.take _).length = (W'.S.take _).length
    rw [List.length_take, List.length_take, st.ok.len]
  · exact st.ok.inj i k a c d (getμ h1).2 (getμ h2).2 (getS h3).2.1 (getS h4).2.1
  · obtain ⟨hk, g1, g2⟩ := getS h2
    have ck := st.ok.cell k a c (getμ h1).2 g1
    refine cell_cut ?_ ck
    by_cases hk2 : k < W.S.length
    · rw [List.getElem?_append_left hk2] at g2
      have hm : k < W.μ.length := by rw [lenW]; exact hk2
      exact Cell.low_mono (by rw [lenW, List.length_append]; omega) (cell_low (ok.cell k _ c (List.getElem?_eq_getElem hm) g2))
    · rw [List.getElem?_append_right (by omega)] at g2
      exact hc c (List.mem_of_getElem? g2)
  · exact st.ok.apart k a c (getμ h1).2 (getS h2).2.1
  · show W'.S.take _ = _
    rw [eS, List.take_left']; rfl
theorem spD_refine {m : Md} {n : Nat} {g p : List D → M D} (h : Refines g p) {vs : List V} {H : Hp} {Q : VK} {E : XK} (q : spD m n p vs H Q E) : spD m n g vs H Q E := by
  obtain ⟨W, ds, d, S1, h1, ok, h3, h4, h5, h6⟩ := q
  rcases h ds W.S d S1 h5 with e | ⟨new, j, rfl, e, hl, hc⟩
  · exact ⟨W, ds, d, S1, h1, ok, h3, h4, e, h6⟩
  · refine ⟨W, ds, d, _, h1, ok, h3, h4, e, fun W' v st r => ?_⟩
    exact h6 (W'.cut (W.S ++ new).length) v (st.cut ok hc) (rp_cutW d v hl r)
theorem Df.refine {P : Program} {w : World} {K : PySem.W.Frag} {mg : Str → Option Value} {base : Heap} {x : Str} {k n : Nat} {g p : List D → M D} (d : Df P w K mg base x k n g) (h : Refines g p) : Df P w K mg base x k n p := by
  obtain ⟨f, fd, ps, h1, h2, h3, h4, h5⟩ := d.ex
  exact ⟨f, fd, ps, h1, h2, h3, h4, h5.imp fun vs H Q E q => spD_refine h q⟩
end Ev
end L2

namespace L2
namespace Ev
open PyProof.Rows PySem.Spec PySem L2
variable [Tb]
/-! ### to reckon with meanings -/
def rng1 (xs : List D) (S : Store) : Option ((List D × (Store → Bool)) × Store) := match xs with
  | [.int j] => if ok62 j then some ((rangeD 0 j.toNat, gYes), S) else none
  | _ => none
def rng2 (xs : List D) (S : Store) : Option ((List D × (Store → Bool)) × Store) := match xs with
  | [.int i, .int j] => if ok62 i && ok62 j then some ((rangeD i (j - i).toNat, gYes), S) else none
  | _ => none
def seqW (x : D) (S : Store) : Option ((List D × (Store → Bool)) × Store) := match x with
  | .tup xs => some ((xs, gYes), S)
  | x => (readOf S x).map fun xs => ((xs, gOf x xs), S)
def oInt (x : D) (S : Store) : Option (Option Int × Store) := match x with
  | .int i => some (some i, S)
  | _ => none
def par2 (i j : Nat) (ds : List D) (ρ : EnvD) (S : Store) : Option Res := match ds with
  | [x, y] => some (.nx ((ρ.set i (some x)).set j (some y)) S)
  | _ => none
section
variable {ρ : EnvD} {S S1 : Store} {f g : MS} {fa fb fc : ME} {d : D}
@[simp] theorem eC_r : eC d ρ S = some (d, S) := (rfl)
@[simp] theorem eV_0 {a : D} {r : EnvD} : eV 0 (some a :: r) S = some (a, S) := (rfl)
@[simp] theorem eV_s {a : Option D} {r : EnvD} {n : Nat} : eV (n + 1) (a :: r) S = eV n r S := (rfl)
@[simp] theorem eBin_r {op : D → D → M D} : eBin op fa fb ρ S = (fa ρ S).bind fun p => (fb ρ p.2).bind fun q => op p.1 q.1 q.2 := (rfl)
@[simp] theorem eUn_r {op : D → M D} : eUn op fa ρ S = (fa ρ S).bind fun p => op p.1 p.2 := (rfl)
@[simp] theorem eCall_r {n : Nat} {h : List D → M D} {fs : MA} : eCall n h fs ρ S = (fs ρ S).bind fun p => if p.1.length = n then h p.1 p.2 else none := (rfl)
@[simp] theorem eFn_r {h : List D → M D} {fs : MA} : eFn h fs ρ S = (fs ρ S).bind fun p => h p.1 p.2 := (rfl)
@[simp] theorem aNil_r : aNil ρ S = some ([], S) := (rfl)
@[simp] theorem aCons_r {fs : MA} : aCons fa fs ρ S = (fa ρ S).bind fun p => (fs ρ p.2).map fun q => (p.1 :: q.1, q.2) := (rfl)
@[simp] theorem eTup_r {fs : MA} : eTup fs ρ S = (fs ρ S).bind fun p => if p.1.length ≤ sizeLine then some (.tup p.1, p.2) else none := (rfl)
@[simp] theorem eLst_r {mu : Bool} {fs : MA} : eLst mu fs ρ S = (fs ρ S).bind fun p => newL mu p.1 p.2 := (rfl)
@[simp] theorem eIf_r {t : MT} : eIf t fa fb ρ S = (t ρ S).bind fun p => if p.1 = true then fa ρ p.2 else fb ρ p.2 := (rfl)
@[simp] theorem eAnd_r : eAnd fa fb ρ S = (fa ρ S).bind fun p => (truD p.2 p.1).bind fun b => if b = true then fb ρ p.2 else some (p.1, p.2) := (rfl)
@[simp] theorem eOr_r : eOr fa fb ρ S = (fa ρ S).bind fun p => (truD p.2 p.1).bind fun b => if b = true then some (p.1, p.2) else fb ρ p.2 := (rfl)
@[simp] theorem eNot_r : eNot fa ρ S = (fa ρ S).bind fun p => (truD p.2 p.1).map fun b => (.bl (!b), p.2) := (rfl)
@[simp] theorem eIsi_r {T : String} : eIsi T fa ρ S = (fa ρ S).bind fun p => if typD p.2 p.1 ∈ ["NoneType", "bool", "int", "str", "tuple", "list"] then some (.bl (isiT (typD p.2 p.1) T), p.2) else none := (rfl)
@[simp] theorem eMeth_r {T : String} {h : D → List D → M D} {fs : MA} : eMeth T h fa fs ρ S = (fa ρ S).bind fun p => if typD p.2 p.1 = T then (fs ρ p.2).bind fun q => h p.1 q.1 q.2 else none := (rfl)
@[simp] theorem eSl_r {mu : Bool} {lo hi : MO} : eSl mu fa lo hi ρ S = (fa ρ S).bind fun p => (lo ρ p.2).bind fun l => (hi ρ l.2).bind fun h => opSl mu p.1 l.1 h.1 h.2 := (rfl)
@[simp] theorem oNo_r : oNo ρ S = some (none, S) := (rfl)
@[simp] theorem eDnew_r : eDnew ρ S = some (.ref S.length, S ++ [.dct []]) := (rfl)
@[simp] theorem tOf_r : tOf fa ρ S = (fa ρ S).bind fun p => (truD p.2 p.1).map fun b => (b, p.2) := (rfl)
@[simp] theorem tNotD_r {t : MT} : tNotD t ρ S = (t ρ S).map fun p => (!p.1, p.2) := (rfl)
@[simp] theorem tAndD_r {t u : MT} : tAndD t u ρ S = (t ρ S).bind fun p => if p.1 = true then u ρ p.2 else some (false, p.2) := (rfl)
@[simp] theorem tOrD_r {t u : MT} : tOrD t u ρ S = (t ρ S).bind fun p => if p.1 = true then some (true, p.2) else u ρ p.2 := (rfl)
@[simp] theorem tTrue_r : tTrue ρ S = some (true, S) := (rfl)
@[simp] theorem gN_r {i : Nat} : gN i d ρ = some (ρ.set i (some d)) := (rfl)
@[simp] theorem gTup_r {n : Nat} {h : FGs} {xs : List D} (e : xs.length = n) : gTupD n h (.tup xs) ρ = h xs ρ := by simp [gTupD, e]
@[simp] theorem gNil_r : gNilD [] ρ = some ρ := (rfl)
@[simp] theorem gCons_r {h : FG} {k : FGs} {xs : List D} : gConsD h k (d :: xs) ρ = (h d ρ).bind fun ρ1 => k xs ρ1 := (rfl)
@[simp] theorem sSeq_r : sSeq f g ρ S = (f ρ S).bind fun r => r.andThen g := (rfl)
@[simp] theorem andThen_nx : (Res.nx ρ S).andThen g = g ρ S := (rfl)
@[simp] theorem andThen_rt : (Res.rt d S).andThen g = some (.rt d S) := (rfl)
@[simp] theorem andThen_bk : (Res.bk ρ S).andThen g = some (.bk ρ S) := (rfl)
@[simp] theorem andThen_ct : (Res.ct ρ S).andThen g = some (.ct ρ S) := (rfl)
@[simp] theorem again_nx : (Res.nx ρ S).again g = g ρ S := (rfl)
@[simp] theorem again_rt : (Res.rt d S).again g = some (.rt d S) := (rfl)
@[simp] theorem again_bk : (Res.bk ρ S).again g = some (.nx ρ S) := (rfl)
@[simp] theorem again_ct : (Res.ct ρ S).again g = g ρ S := (rfl)
@[simp] theorem out_nx : (Res.nx ρ S).out = some (.non, S) := (rfl)
@[simp] theorem out_rt : (Res.rt d S).out = some (d, S) := (rfl)
@[simp] theorem sNx_r : sNx ρ S = some (.nx ρ S) := (rfl)
@[simp] theorem sBk_r : sBk ρ S = some (.bk ρ S) := (rfl)
@[simp] theorem sCt_r : sCt ρ S = some (.ct ρ S) := (rfl)
@[simp] theorem sRet_r : sRet fa ρ S = (fa ρ S).map fun p => .rt p.1 p.2 := (rfl)
@[simp] theorem sRetN_r : sRetN ρ S = some (.rt .non S) := (rfl)
@[simp] theorem sDrop_r : sDrop fa ρ S = (fa ρ S).map fun p => .nx ρ p.2 := (rfl)
@[simp] theorem sAsg_r {h : FG} : sAsg fa h ρ S = (fa ρ S).bind fun p => (h p.1 ρ).map fun ρ1 => .nx ρ1 p.2 := (rfl)
@[simp] theorem sIf_r {t : MT} : sIf t f g ρ S = (t ρ S).bind fun p => if p.1 = true then f ρ p.2 else g ρ p.2 := (rfl)
@[simp] theorem sPut_r : sPut fa fb fc ρ S = (fc ρ S).bind fun v => (fa ρ v.2).bind fun x => (fb ρ x.2).bind fun y => (stPut x.1 y.1 v.1 y.2).map fun S4 => .nx ρ S4 := (rfl)
@[simp] theorem sFor_r {it : MI} {tg : FG} : sFor it tg f ρ S = (it ρ S).bind fun p => forL p.1.2 tg f p.1.1 ρ p.2 := (rfl)
@[simp] theorem eLc_r {mu : Bool} {vs : List Nat} {it : MI} {tg : FG} {t : MT} : eLc mu vs it tg t fa ρ S = (it ρ S).bind fun p => (compL p.1.2 vs tg t fa p.1.1 ρ p.2 []).bind fun q => newL mu q.1 q.2 := (rfl)
@[simp] theorem iRng1_r {fs : MA} : iRng1D fs ρ S = (fs ρ S).bind fun p => rng1 p.1 p.2 := (rfl)
@[simp] theorem iRng2_r {fs : MA} : iRng2D fs ρ S = (fs ρ S).bind fun p => rng2 p.1 p.2 := (rfl)
@[simp] theorem iSeq_r : iSeq fa ρ S = (fa ρ S).bind fun p => seqW p.1 p.2 := (rfl)
@[simp] theorem oYes_r : oYes fa ρ S = (fa ρ S).bind fun p => oInt p.1 p.2 := (rfl)
@[simp] theorem sPar_r {i j : Nat} {fs : MA} : sPar i j fs ρ S = (fs ρ S).bind fun p => par2 i j p.1 ρ p.2 := (rfl)
@[simp] theorem rng1_int {j : Int} (hj : ok62 j = true) : rng1 [.int j] S = some ((rangeD 0 j.toNat, gYes), S) := by simp [rng1, hj]
@[simp] theorem rng2_int {i j : Int} (hi : ok62 i = true) (hj : ok62 j = true) : rng2 [.int i, .int j] S = some ((rangeD i (j - i).toNat, gYes), S) := by simp [rng2, hi, hj]
@[simp] theorem seqW_tup {xs : List D} : seqW (.tup xs) S = some ((xs, gYes), S) := (rfl)
@[simp] theorem seqW_lst {xs : List D} : seqW (.lst xs) S = some ((xs, gOf (.lst xs) xs), S) := (rfl)
@[simp] theorem oInt_int {i : Int} : oInt (.int i) S = some (some i, S) := (rfl)
@[simp] theorem par2_r {i j : Nat} {x y : D} : par2 i j [x, y] ρ S = some (.nx ((ρ.set i (some x)).set j (some y)) S) := (rfl)
@[simp] theorem typD_str {x : Str} : typD S (.str x) = "str" := (rfl)
@[simp] theorem typD_int {x : Int} : typD S (.int x) = "int" := (rfl)
@[simp] theorem typD_bl {x : Bool} : typD S (.bl x) = "bool" := (rfl)
@[simp] theorem typD_non : typD S .non = "NoneType" := (rfl)
@[simp] theorem typD_tup {x : List D} : typD S (.tup x) = "tuple" := (rfl)
@[simp] theorem typD_lst {x : List D} : typD S (.lst x) = "list" := (rfl)
@[simp] theorem typD_scr {x : List Int} : typD S (.scr x) = "list" := (rfl)
@[simp] theorem gOf_lst {xs ys : List D} : gOf (.lst xs) ys = gYes := (rfl)
@[simp] theorem gYes_r : gYes S = true := (rfl)
/-! operators -/
@[simp] theorem opAdd_int {mu : Bool} {a b : Int} : opAdd mu (.int a) (.int b) S = some (.int (a + b), S) := (rfl)
@[simp] theorem opSub_int {a b : Int} : opSub (.int a) (.int b) S = some (.int (a - b), S) := (rfl)
theorem opMul_int {a b : Int} (h : small64 a = true ∨ small64 b = true) : opMul (.int a) (.int b) S = some (.int (a * b), S) := by
  unfold opMul
  rcases h with h | h <;> simp [h]
theorem small_mod {a m : Int} (h : 0 < m) (h2 : m < 2 ^ 64) : small64 (a % m) = true := by
  have h1 := Int.emod_nonneg a (b := m) (by omega)
  have h3 := Int.emod_lt_of_pos a h
  unfold small64
  simp; omega
@[simp] theorem opMul_mod1 {a b m : Int} (h : 0 < m) (h2 : m < 2 ^ 64) : opMul (.int (a % m)) (.int b) S = some (.int (a % m * b), S) := opMul_int (.inl (small_mod h h2))
@[simp] theorem opMul_mod2 {a b m : Int} (h : 0 < m) (h2 : m < 2 ^ 64) : opMul (.int b) (.int (a % m)) S = some (.int (b * (a % m)), S) := opMul_int (.inr (small_mod h h2))
@[simp] theorem opMul_lit1 {a b : Int} (h : -(2 ^ 64) < a) (h2 : a < 2 ^ 64) : opMul (.int a) (.int b) S = some (.int (a * b), S) := opMul_int (.inl (by unfold small64; simp; omega))
@[simp] theorem opMul_lit2 {a b : Int} (h : -(2 ^ 64) < b) (h2 : b < 2 ^ 64) : opMul (.int a) (.int b) S = some (.int (a * b), S) := opMul_int (.inr (by unfold small64; simp; omega))
@[simp] theorem opMod_int {a b : Int} (h : 0 < b) : opMod (.int a) (.int b) S = some (.int (a % b), S) := by simp [opMod, h]
@[simp] theorem opFdiv_int {a b : Int} (h : 0 < b) (h2 : b < 2 ^ 64) : opFdiv (.int a) (.int b) S = some (.int (a / b), S) := by simp only [opFdiv]; rw [if_pos ⟨h, h2⟩]
@[simp] theorem opLt_int {a b : Int} : opLt (.int a) (.int b) S = some (.bl (decide (a < b)), S) := (rfl)
@[simp] theorem opLe_int {a b : Int} : opLe (.int a) (.int b) S = some (.bl (decide (a ≤ b)), S) := (rfl)
@[simp] theorem opGt_int {a b : Int} : opGt (.int a) (.int b) S = some (.bl (decide (b < a)), S) := (rfl)
@[simp] theorem opGe_int {a b : Int} : opGe (.int a) (.int b) S = some (.bl (decide (b ≤ a)), S) := (rfl)
@[simp] theorem opNeg_int {a : Int} : opNeg (.int a) S = some (.int (-a), S) := (rfl)
theorem opAdd_tup {mu : Bool} {a b : List D} (h : a.length + b.length ≤ sizeLine) : opAdd mu (.tup a) (.tup b) S = some (.tup (a ++ b), S) := by simp [opAdd, h]
theorem opAdd_str {mu : Bool} {a b : Str} (h : a.length + b.length ≤ sizeLine) : opAdd mu (.str a) (.str b) S = some (.str (a ++ b), S) := by simp [opAdd, h]
theorem opAdd_lst {mu : Bool} {a b : List D} : opAdd mu (.lst a) (.lst b) S = newL mu (a ++ b) S := rfl
@[simp] theorem truD_bl {b : Bool} : truD S (.bl b) = some b := (rfl)
@[simp] theorem newL_f {xs : List D} (h : xs.length ≤ sizeLine) : newL false xs S = some (.lst xs, S) := by simp [newL, h]
@[simp] theorem newL_t {xs : List D} (h : xs.length ≤ sizeLine) : newL true xs S = some (.ref S.length, S ++ [.lst xs]) := by simp [newL, h]
@[simp] theorem fTuple_lst {xs : List D} : fTuple [.lst xs] S = some (.tup xs, S) := (rfl)
@[simp] theorem fTuple_tup {xs : List D} : fTuple [.tup xs] S = some (.tup xs, S) := (rfl)
@[simp] theorem dctOf_tup {xs : List D} : dctOf S (.tup xs) = none := (rfl)
@[simp] theorem dctOf_lst {xs : List D} : dctOf S (.lst xs) = none := (rfl)
@[simp] theorem dctOf_str {xs : Str} : dctOf S (.str xs) = none := (rfl)
@[simp] theorem dctOf_scr {ns : List Int} : dctOf S (.scr ns) = none := (rfl)
@[simp] theorem opSub2_tup {xs : List D} {i : Int} : opSub2 (.tup xs) (.int i) S = (atI xs i).map (·, S) := (rfl)
@[simp] theorem opSub2_lst {xs : List D} {i : Int} : opSub2 (.lst xs) (.int i) S = (atI xs i).map (·, S) := (rfl)
@[simp] theorem opSub2_scr {ns : List Int} {i : Int} : opSub2 (.scr ns) (.int i) S = (atI (ns.map D.int) i).map (·, S) := (rfl)
end
theorem atI_pos {α : Type} {xs : List α} {i : Int} {x : α} (h0 : 0 ≤ i) (h : xs[i.toNat]? = some x) : atI xs i = some x := by
  have hi : i.toNat < xs.length := (List.getElem?_eq_some_iff.mp h).1
  unfold atI ixN
  rw [if_pos h0, if_pos (by omega)]
  exact h
theorem atI_mod {α : Type} {xs : List α} {i : Int} (h0 : 0 ≤ i) (h1 : i < xs.length) : ∃ x, xs[i.toNat]? = some x ∧ atI xs i = some x := by
  have hi : i.toNat < xs.length := by omega
  exact ⟨xs[i.toNat], List.getElem?_eq_getElem hi, atI_pos h0 (List.getElem?_eq_getElem hi)⟩
/-! ### loops -/
/-- a for, by what holds before each turn -/
theorem forL_rule {g : Store → Bool} {tg : FG} {body : MS} (Inv : List D → EnvD → Store → Prop)
    (step : ∀ d rest ρ S, Inv (d :: rest) ρ S → g S = true ∧ ∃ ρ1 ρ2 S2, tg d ρ = some ρ1 ∧ (body ρ1 S = some (.nx ρ2 S2) ∨ body ρ1 S = some (.ct ρ2 S2)) ∧ Inv rest ρ2 S2)
    (done : ∀ ρ S, Inv [] ρ S → g S = true) : ∀ (ds : List D) (ρ : EnvD) (S : Store), Inv ds ρ S → ∃ ρ' S', forL g tg body ds ρ S = some (.nx ρ' S') ∧ Inv [] ρ' S'
  | [], ρ, S, h => ⟨ρ, S, by rw [forL, if_pos (done ρ S h)], h⟩
  | d :: rest, ρ, S, h => by
    obtain ⟨h1, ρ1, ρ2, S2, h2, h3, h4⟩ := step d rest ρ S h
    obtain ⟨ρ', S', h5, h6⟩ := forL_rule Inv step done rest ρ2 S2 h4
    refine ⟨ρ', S', ?_, h6⟩
    rw [forL, if_pos h1, h2]
    rcases h3 with h3 | h3 <;> simp [h3, h5]
/-- a for that may return -/
theorem forL_rule_rt {g : Store → Bool} {tg : FG} {body : MS} (Inv : List D → EnvD → Store → Prop) (Ret : D → Store → Prop)
    (step : ∀ d rest ρ S, Inv (d :: rest) ρ S → g S = true ∧ ∃ ρ1, tg d ρ = some ρ1 ∧ ((∃ ρ2 S2, (body ρ1 S = some (.nx ρ2 S2) ∨ body ρ1 S = some (.ct ρ2 S2)) ∧ Inv rest ρ2 S2) ∨ ∃ x S2, body ρ1 S = some (.rt x S2) ∧ Ret x S2))
    (done : ∀ ρ S, Inv [] ρ S → g S = true) : ∀ (ds : List D) (ρ : EnvD) (S : Store), Inv ds ρ S → (∃ ρ' S', forL g tg body ds ρ S = some (.nx ρ' S') ∧ Inv [] ρ' S') ∨ ∃ x S', forL g tg body ds ρ S = some (.rt x S') ∧ Ret x S'
  | [], ρ, S, h => .inl ⟨ρ, S, by rw [forL, if_pos (done ρ S h)], h⟩
  | d :: rest, ρ, S, h => by
    obtain ⟨h1, ρ1, h2, ⟨ρ2, S2, h3, h4⟩ | ⟨x, S2, h3, h4⟩⟩ := step d rest ρ S h
    · rcases forL_rule_rt Inv Ret step done rest ρ2 S2 h4 with ⟨ρ', S', h5, h6⟩ | ⟨x, S', h5, h6⟩
      · refine .inl ⟨ρ', S', ?_, h6⟩
        rw [forL, if_pos h1, h2]
        rcases h3 with h3 | h3 <;> simp [h3, h5]
      · refine .inr ⟨x, S', ?_, h6⟩
        rw [forL, if_pos h1, h2]
        rcases h3 with h3 | h3 <;> simp [h3, h5]
    · refine .inr ⟨x, S2, ?_, h4⟩
      rw [forL, if_pos h1, h2]
      simp [h3]
/-- a comprehension that changes nothing -/
theorem compL_pure {gd : Store → Bool} {vs : List Nat} {tg : FG} {t : MT} {f : ME} {ρ : EnvD} {S : Store} (hg : gd S = true) (b : D → Bool) (h : D → D) : ∀ (ds : List D) (acc : List D),
    (∀ d ∈ ds, ∃ ρ1, tg d (wipeD ρ vs) = some ρ1 ∧ t ρ1 S = some (b d, S) ∧ (b d = true → f ρ1 S = some (h d, S))) → acc.length + ds.length ≤ sizeLine → compL gd vs tg t f ds ρ S acc = some (acc ++ (ds.filter b).map h, S)
  | [], acc, _, _ => by simp [compL, hg]
  | d :: ds, acc, hd, hl => by
    obtain ⟨ρ1, e1, e2, e3⟩ := hd d List.mem_cons_self
    have hl' : acc.length + (ds.length + 1) ≤ sizeLine := hl
    rw [compL, if_pos hg, e1]
    simp only [Option.bind_some]
    rw [e2]
    simp only [Option.bind_some]
    by_cases hb : b d = true
    · rw [if_pos hb, e3 hb]
      simp only [Option.bind_some]
      rw [if_pos (by omega), compL_pure hg b h ds _ (fun x hx => hd x (List.mem_cons_of_mem _ hx)) (by rw [List.length_append, List.length_singleton]; omega), List.filter_cons_of_pos hb, List.map_cons, List.append_assoc]
      rfl
    · rw [if_neg hb, compL_pure hg b h ds acc (fun x hx => hd x (List.mem_cons_of_mem _ hx)) (by omega), List.filter_cons_of_neg hb]
/-- .. without a condition -/
theorem compL_map {gd : Store → Bool} {vs : List Nat} {tg : FG} {f : ME} {ρ : EnvD} {S : Store} (hg : gd S = true) (h : D → D) (ds : List D)
    (hd : ∀ d ∈ ds, ∃ ρ1, tg d (wipeD ρ vs) = some ρ1 ∧ f ρ1 S = some (h d, S)) (hl : ds.length ≤ sizeLine) : compL gd vs tg tTrue f ds ρ S [] = some (ds.map h, S) := by
  rw [compL_pure hg (fun _ => true) h ds [] (fun d hm => by obtain ⟨ρ1, e1, e2⟩ := hd d hm; exact ⟨ρ1, e1, rfl, fun _ => e2⟩) (by simpa using hl)]
  rw [List.filter_eq_self.mpr fun _ _ => rfl]; rfl
@[simp] theorem sizeLine_s : sizeLine = 16777216 := sizeLine_eq
end Ev
end L2

namespace L2
namespace Ev
open PyProof.Rows PySem.Spec PySem L2
variable [Tb]
/-! ### the law helpers, told in plain words -/
def p_law_cell_at : List D → M D := fun ds S => match ds with
  | [.scr ns, .int k] => if 0 ≤ k then some (.int (ns.getD k.toNat 0), S) else none
  | _ => none
def mixV (c k : Int) : Int := let d := ((c + 7919 * k + 1) * 48271) % 2147483647; (d * d + 7 * d + k) % 2147483629
def p_law_mixed : List D → M D := fun ds S => match ds with
  | [.scr ns, .int k] => if 0 ≤ k then some (.int (mixV (ns.getD k.toNat 0) k), S) else none
  | _ => none
def drawnV (n k : Int) : Int := let d := ((n + 104729 * k + 17) * 69621) % 2147483647; (d * d + 3 * d + k) % 2147483629
def p_law_drawn : List D → M D := fun ds S => match ds with
  | [.int n, .int k] => some (.int (drawnV n k), S)
  | _ => none
theorem mixV_nonneg (c k : Int) : 0 ≤ mixV c k := Int.emod_nonneg _ (by decide)
theorem drawnV_nonneg (c k : Int) : 0 ≤ drawnV c k := Int.emod_nonneg _ (by decide)
theorem drawnV_lt (c k : Int) : drawnV c k < 2147483629 := Int.emod_lt_of_pos _ (by decide)
theorem mixV_lt (c k : Int) : mixV c k < 2147483629 := Int.emod_lt_of_pos _ (by decide)
/-- law_cell_at: 0 law_script, 1 law_k -/
noncomputable def b_law_cell_at : MS := (sSeq (sIf (tOf (eBin opLt (eV 1) (eFn fLen (aCons (eV 0) aNil)))) (sRet (eBin opSub2 (eV 0) (eV 1))) sNx) (sRet (eC (.int 0))))
noncomputable def g_law_cell_at : List D → M D := runDef 2 b_law_cell_at
/-- law_mixed: 0 law_script, 1 law_k, 2 law_drawn_here -/
noncomputable def b_law_mixed : MS := (sSeq (sAsg (eBin opMod (eBin opMul (eBin (opAdd false) (eBin (opAdd false) (eCall 2 p_law_cell_at (aCons (eV 0) (aCons (eV 1) aNil))) (eBin opMul (eC (.int 7919)) (eV 1))) (eC (.int 1))) (eC (.int 48271))) (eC (.int 2147483647))) (gN 2)) (sRet (eBin opMod (eBin (opAdd false) (eBin (opAdd false) (eBin opMul (eV 2) (eV 2)) (eBin opMul (eC (.int 7)) (eV 2))) (eV 1)) (eC (.int 2147483629)))))
noncomputable def g_law_mixed : List D → M D := runDef 3 b_law_mixed
/-- law_drawn: 0 law_number, 1 law_k, 2 law_drawn_here -/
noncomputable def b_law_drawn : MS := (sSeq (sAsg (eBin opMod (eBin opMul (eBin (opAdd false) (eBin (opAdd false) (eV 0) (eBin opMul (eC (.int 104729)) (eV 1))) (eC (.int 17))) (eC (.int 69621))) (eC (.int 2147483647))) (gN 2)) (sRet (eBin opMod (eBin (opAdd false) (eBin (opAdd false) (eBin opMul (eV 2) (eV 2)) (eBin opMul (eC (.int 3)) (eV 2))) (eV 1)) (eC (.int 2147483629)))))
noncomputable def g_law_drawn : List D → M D := runDef 3 b_law_drawn
theorem r_law_cell_at : Refines g_law_cell_at p_law_cell_at := fun ds S d S1 h => by
  unfold p_law_cell_at at h
  split at h
  · rename_i ns k
    split at h
    · rename_i hk
      cases h
      refine .inl ?_
      by_cases hl : k < ns.length
      · have e : atI (ns.map D.int) k = some (.int (ns.getD k.toNat 0)) := atI_pos hk (by rw [List.getElem?_map, List.getElem?_eq_getElem (by omega), List.getD_eq_getElem?_getD, List.getElem?_eq_getElem (by omega)]; rfl)
        simp [g_law_cell_at, runDef, b_law_cell_at, fLen, readOf, hl, e]
      · have e : ns.getD k.toNat 0 = 0 := by rw [List.getD_eq_getElem?_getD, List.getElem?_eq_none (by omega)]; rfl
        simp only [e]
        simp [g_law_cell_at, runDef, b_law_cell_at, fLen, readOf, hl]
    · cases h
  · cases h
theorem r_law_mixed : Refines g_law_mixed p_law_mixed := fun ds S d S1 h => by
  unfold p_law_mixed at h
  split at h
  · rename_i ns k
    split at h
    · rename_i hk
      cases h
      refine .inl ?_
      have e : p_law_cell_at [.scr ns, .int k] S = some (.int (ns.getD k.toNat 0), S) := by simp [p_law_cell_at, hk]
      simp [g_law_mixed, runDef, b_law_mixed, e, mixV]
    · cases h
  · cases h
theorem r_law_drawn : Refines g_law_drawn p_law_drawn := fun ds S d S1 h => by
  unfold p_law_drawn at h
  split at h
  · rename_i ns k
    cases h
    refine .inl ?_
    simp [g_law_drawn, runDef, b_law_drawn, drawnV]
  · cases h
end Ev
end L2

namespace L2
namespace Ev
open PyProof.Rows PySem.Spec PySem L2
variable [Tb]
/-! ### equality of data without truths -/
mutual
def D.noB : D → Bool
  | .non => true
  | .int _ => true
  | .str _ => true
  | .tup ds => D.noBs ds
  | .lst ds => D.noBs ds
  | _ => false
def D.noBs : List D → Bool
  | [] => true
  | d :: ds => D.noB d && D.noBs ds
end
mutual
def D.dep : D → Nat
  | .tup ds => D.deps ds + 1
  | .lst ds => D.deps ds + 1
  | _ => 0
def D.deps : List D → Nat
  | [] => 0
  | d :: ds => max (D.dep d) (D.deps ds)
end
def ordKs (ds : List D) : List PyData := ds.map ordK
mutual
theorem py0_noB : ∀ d : D, D.noB d = true → py0 d = some (ordK d)
  | .non, _ => rfl
  | .int _, _ => rfl
  | .str _, _ => rfl
  | .tup ds, h => by
    simp only [D.noB] at h
    unfold ordK
    rw [py0, py0s_noB ds h]; rfl
  | .lst ds, h => by
    simp only [D.noB] at h
    unfold ordK
    rw [py0, py0s_noB ds h]; rfl
  | .bl _, h => by cases h
  | .ref _, h => by cases h
  | .adr _, h => by cases h
  | .scr _, h => by cases h
theorem py0s_noB : ∀ ds : List D, D.noBs ds = true → py0s ds = some (ordKs ds)
  | [], _ => rfl
  | d :: ds, h => by
    simp only [D.noBs, Bool.and_eq_true] at h
    rw [py0s, py0_noB d h.1, py0s_noB ds h.2]; rfl
end
theorem ordK_tup {ds : List D} (h : D.noBs ds = true) : ordK (.tup ds) = .tuple (ordKs ds) := by unfold ordK; rw [py0, py0s_noB ds h]; rfl
theorem ordK_lst {ds : List D} (h : D.noBs ds = true) : ordK (.lst ds) = .list (ordKs ds) := by unfold ordK; rw [py0, py0s_noB ds h]; rfl
mutual
theorem py1_noB (S : Store) : ∀ d : D, D.noB d = true → py1 S d = some (ordK d)
  | .non, _ => rfl
  | .int _, _ => rfl
  | .str _, _ => rfl
  | .tup ds, h => py0_noB (.tup ds) h
  | .lst ds, h => py0_noB (.lst ds) h
  | .bl _, h => by cases h
  | .ref _, h => by cases h
  | .adr _, h => by cases h
  | .scr _, h => by cases h
theorem py1s_noB (S : Store) : ∀ ds : List D, D.noBs ds = true → py1s S ds = some (ordKs ds)
  | [], _ => rfl
  | d :: ds, h => by
    simp only [D.noBs, Bool.and_eq_true] at h
    rw [py1s, py1_noB S d h.1, py1s_noB S ds h.2]; rfl
end
theorem py2_noB (S : Store) : ∀ d : D, D.noB d = true → py2 S d = some (ordK d)
  | .non, _ => rfl
  | .int _, _ => rfl
  | .str _, _ => rfl
  | .tup ds, h => py0_noB (.tup ds) h
  | .lst ds, h => by rw [py2, py1s_noB S ds h, ordK_lst h]; rfl
  | .bl _, h => by cases h
  | .ref _, h => by cases h
  | .adr _, h => by cases h
  | .scr _, h => by cases h
mutual
theorem depth_noB : ∀ d : D, D.noB d = true → (ordK d).depth = D.dep d
  | .non, _ => by simp [ordK, py0, PyData.depth, D.dep]
  | .int _, _ => by simp [ordK, py0, PyData.depth, D.dep]
  | .str _, _ => by simp [ordK, py0, PyData.depth, D.dep]
  | .tup ds, h => by
    simp only [D.noB] at h
    rw [ordK_tup h, PyData.depth, depths_noB ds h, D.dep]
  | .lst ds, h => by
    simp only [D.noB] at h
    rw [ordK_lst h, PyData.depth, depths_noB ds h, D.dep]
  | .bl _, h => by cases h
  | .ref _, h => by cases h
  | .adr _, h => by cases h
  | .scr _, h => by cases h
theorem depths_noB : ∀ ds : List D, D.noBs ds = true → PyData.depthAll (ordKs ds) = D.deps ds
  | [], _ => by simp [ordKs, PyData.depthAll, D.deps]
  | d :: ds, h => by
    simp only [D.noBs, Bool.and_eq_true] at h
    show PyData.depthAll (ordK d :: ordKs ds) = _
    rw [PyData.depthAll, depth_noB d h.1, depths_noB ds h.2, D.deps]
end
mutual
theorem eqv_noB : ∀ a b : D, D.noB a = true → D.noB b = true → PyData.eqv (ordK a) (ordK b) = decide (a = b)
  | .non, b, _, h => by cases b <;> simp_all [ordK, py0, PyData.eqv, D.noB, py0s_noB]
  | .int i, b, _, h => by
    cases b <;> simp_all [ordK, py0, PyData.eqv, D.noB, py0s_noB]
    by_cases e : i = ‹Int› <;> simp [e]
  | .str i, b, _, h => by
    cases b <;> simp_all [ordK, py0, PyData.eqv, D.noB, py0s_noB]
    by_cases e : i = ‹Str› <;> simp [e]
  | .tup xs, b, g, h => by
    simp only [D.noB] at g
    rw [ordK_tup g]
    cases b with
    | tup ys =>
      simp only [D.noB] at h
      rw [ordK_tup h, PyData.eqv, eqvs_noB xs ys g h]
      simp
    | lst ys => simp only [D.noB] at h; rw [ordK_lst h]; simp [PyData.eqv]
    | _ => simp_all [ordK, py0, PyData.eqv, D.noB]
  | .lst xs, b, g, h => by
    simp only [D.noB] at g
    rw [ordK_lst g]
    cases b with
    | lst ys =>
      simp only [D.noB] at h
      rw [ordK_lst h, PyData.eqv, eqvs_noB xs ys g h]
      simp
    | tup ys => simp only [D.noB] at h; rw [ordK_tup h]; simp [PyData.eqv]
    | _ => simp_all [ordK, py0, PyData.eqv, D.noB]
  | .bl _, _, h, _ => by cases h
  | .ref _, _, h, _ => by cases h
  | .adr _, _, h, _ => by cases h
  | .scr _, _, h, _ => by cases h
theorem eqvs_noB : ∀ a b : List D, D.noBs a = true → D.noBs b = true → PyData.eqvAll (ordKs a) (ordKs b) = decide (a = b)
  | [], [], _, _ => by simp [ordKs, PyData.eqvAll]
  | [], b :: bs, _, _ => by simp [ordKs, PyData.eqvAll]
  | a :: as, [], _, _ => by simp [ordKs, PyData.eqvAll]
  | a :: as, b :: bs, g, h => by
    simp only [D.noBs, Bool.and_eq_true] at g h
    show PyData.eqvAll (ordK a :: ordKs as) (ordK b :: ordKs bs) = _
    rw [PyData.eqvAll, eqv_noB a b g.1 h.1, eqvs_noB as bs g.2 h.2]
    simp [← Bool.decide_and]
end
/-- == of data without truths -/
theorem opEq_noB {neg : Bool} {a b : D} {S : Store} (ha : D.noB a = true) (hb : D.noB b = true) (hd : min (D.dep a) (D.dep b) ≤ 100) : opEq neg a b S = some (.bl (neg != decide (a = b)), S) := by
  unfold opEq
  rw [py2_noB S a ha, py2_noB S b hb]
  simp only [Option.bind_some]
  rw [depth_noB a ha, depth_noB b hb, if_pos hd, eqv_noB a b ha hb]
@[simp] theorem opEq_int {neg : Bool} {a b : Int} {S : Store} : opEq neg (.int a) (.int b) S = some (.bl (neg != decide (a = b)), S) := by
  rw [opEq_noB rfl rfl (by simp [D.dep])]; simp
/-! ### pairs of numbers -/
abbrev P2 := Int × Int
def pairD (p : P2) : D := .tup [.int p.1, .int p.2]
@[simp] theorem pairD_inj {p q : P2} : pairD p = pairD q ↔ p = q := by
  obtain ⟨a, b⟩ := p; obtain ⟨c, d⟩ := q
  simp [pairD]
@[simp] theorem noB_pair (p : P2) : D.noB (pairD p) = true := by simp [pairD, D.noB, D.noBs]
@[simp] theorem dep_pair (p : P2) : D.dep (pairD p) = 1 := by simp [pairD, D.dep, D.deps]
theorem noBs_map {α : Type} {f : α → D} (l : List α) (h : ∀ a ∈ l, D.noB (f a) = true) : D.noBs (l.map f) = true := by
  induction l with
  | nil => rfl
  | cons a l ih => simp only [List.map_cons, D.noBs, Bool.and_eq_true]; exact ⟨h a List.mem_cons_self, ih fun b hb => h b (List.mem_cons_of_mem _ hb)⟩
theorem deps_map {α : Type} {f : α → D} {n : Nat} (l : List α) (h : ∀ a ∈ l, D.dep (f a) ≤ n) : D.deps (l.map f) ≤ n := by
  induction l with
  | nil => simp [D.deps]
  | cons a l ih =>
    have := h a List.mem_cons_self
    have := ih fun b hb => h b (List.mem_cons_of_mem _ hb)
    simp only [List.map_cons, D.deps]; omega
theorem low_noB {n : Nat} : ∀ d : D, D.noB d = true → D.low n d = true := by
  intro d
  refine D.rec (motive_1 := fun d => D.noB d = true → D.low n d = true) (motive_2 := fun ds => D.noBs ds = true → D.lows n ds = true) ?_ ?_ ?_ ?_ ?_ ?_ ?_ ?_ ?_ ?_ ?_ d
  all_goals simp_all [D.noB, D.noBs, D.low, D.lows]
@[simp] theorem opEq_pair {neg : Bool} {p q : P2} {S : Store} : opEq neg (pairD p) (pairD q) S = some (.bl (neg != decide (p = q)), S) := by
  rw [opEq_noB (by simp) (by simp) (by simp)]; simp
def leP (p q : P2) : Bool := decide (p.1 < q.1 ∨ (p.1 = q.1 ∧ p.2 ≤ q.2))
theorem leD_pair (p q : P2) : leD (pairD p) (pairD q) = leP p q := by
  unfold leD
  have e : ∀ p : P2, ordK (pairD p) = .tuple [.int p.1, .int p.2] := fun p => by simp [pairD, ordK, py0, py0s]
  rw [e, e, PySem.W.dataLt_ii]
  unfold leP
  by_cases h : q.1 < p.1 ∨ (q.1 = p.1 ∧ q.2 < p.2)
  · have h' : ¬ (p.1 < q.1 ∨ (p.1 = q.1 ∧ p.2 ≤ q.2)) := by omega
    simp [h, h']
  · have h' : p.1 < q.1 ∨ (p.1 = q.1 ∧ p.2 ≤ q.2) := by omega
    simp [h, h']
def sortP (l : List P2) : List P2 := l.mergeSort leP
theorem sortD_pairs (l : List P2) : (l.map pairD).mergeSort leD = (sortP l).map pairD := (List.map_mergeSort fun a _ b _ => (leD_pair a b).symm).symm
theorem sortOk_pairs (l : List P2) : sortOk (l.map pairD) = true := by
  have e : ∀ p : P2, ordK (pairD p) = .tuple [.int p.1, .int p.2] := fun p => by simp [pairD, ordK, py0, py0s]
  unfold sortOk
  simp only [Bool.and_eq_true, Bool.or_eq_true, List.all_eq_true, List.mem_map, forall_exists_index, and_imp, forall_apply_eq_imp_iff₂, decide_eq_true_eq]
  refine ⟨⟨fun p _ => ⟨by simp [pairD, py0, py0s], by rw [e]; simp [PyData.depth, PyData.depthAll]⟩, fun p _ q _ => by rw [e, e]; simp [PySem.W.alike, PySem.W.alikeAll]⟩, .inl fun p _ => rfl⟩
@[simp] theorem tupK_pair (p : P2) : tupK (pairD p) = true := by simp [tupK, pairD, nkey, nkeys, NestedKey.depth, NestedKey.depthAll]
/-! ### dicts with pairs of numbers as keys: sets, really -/
def entP (p : P2) : D × D := (pairD p, .bl true)
def dctP (ks : List P2) : Cell := .dct (ks.map entP)
def insP (ks : List P2) (p : P2) : List P2 := if p ∈ ks then ks else ks ++ [p]
theorem fitK_P (ks : List P2) (p : P2) : fitK (ks.map entP) (pairD p) = true := by
  cases ks with
  | nil => simp [fitK]
  | cons q r => simp [fitK, entP]
theorem dGet_P (ks : List P2) (p : P2) : dGet (ks.map entP) (pairD p) = if p ∈ ks then some (.bl true) else none := by
  induction ks with
  | nil => rfl
  | cons q r ih =>
    rw [List.map_cons, dGet_cons, ih]
    simp only [entP, pairD_inj, List.mem_cons]
    by_cases h : q = p
    · simp [h]
    · have h' : ¬ p = q := fun e => h e.symm
      simp [h, h']
theorem dPut_P (ks : List P2) (p : P2) : dPut (ks.map entP) (pairD p) (.bl true) = (insP ks p).map entP := by
  unfold dPut insP
  have e : ((ks.map entP).any fun x => decide (x.1 = pairD p)) = decide (p ∈ ks) := by
    rw [dGet_any, dGet_P]
    by_cases h : p ∈ ks <;> simp [h]
  rw [e]
  by_cases h : p ∈ ks
  · rw [if_pos (by simp [h]), if_pos h, List.map_map]
    refine List.map_congr_left fun q _ => ?_
    simp only [Function.comp, entP, pairD_inj]
    split <;> rfl
  · rw [if_neg (by simp [h]), if_neg h, List.map_append]; rfl
theorem insP_len (ks : List P2) (p : P2) : (insP ks p).length ≤ ks.length + 1 := by unfold insP; split <;> simp
theorem insP_nodup {ks : List P2} {p : P2} (h : ks.Nodup) : (insP ks p).Nodup := by
  unfold insP
  split
  · exact h
  · rw [List.nodup_append]; simp_all
    intro a b hm e1; subst e1; contradiction
@[simp] theorem mem_insP {ks : List P2} {p q : P2} : q ∈ insP ks p ↔ q ∈ ks ∨ q = p := by
  unfold insP
  split
  · constructor
    · exact .inl
    · rintro (h | rfl) <;> assumption
  · simp
/-! ### places -/
@[simp] theorem at_len {S r : Store} {c : Cell} : (S ++ c :: r)[S.length]? = some c := by rw [List.getElem?_append_right (Nat.le_refl _), Nat.sub_self]; rfl
@[simp] theorem at_len1 {S r : Store} {b c : Cell} : (S ++ b :: c :: r)[S.length + 1]? = some c := by rw [List.getElem?_append_right (by omega), Nat.add_sub_cancel_left]; rfl
@[simp] theorem at_len2 {S r : Store} {a b c : Cell} : (S ++ a :: b :: c :: r)[S.length + 2]? = some c := by rw [List.getElem?_append_right (by omega), Nat.add_sub_cancel_left]; rfl
@[simp] theorem set_len {S r : Store} {c c' : Cell} : (S ++ c :: r).set S.length c' = S ++ c' :: r := by rw [List.set_append_right _ _ (Nat.le_refl _), Nat.sub_self]; rfl
@[simp] theorem set_len1 {S r : Store} {b c c' : Cell} : (S ++ b :: c :: r).set (S.length + 1) c' = S ++ b :: c' :: r := by rw [List.set_append_right _ _ (by omega), Nat.add_sub_cancel_left]; rfl
@[simp] theorem set_len2 {S r : Store} {a b c c' : Cell} : (S ++ a :: b :: c :: r).set (S.length + 2) c' = S ++ a :: b :: c' :: r := by rw [List.set_append_right _ _ (by omega), Nat.add_sub_cancel_left]; rfl
theorem stPut_P {S : Store} {n : Nat} {ks : List P2} {p : P2} (h : S[n]? = some (dctP ks)) (hl : ks.length < sizeLine) : stPut (.ref n) (pairD p) (.bl true) S = some (S.set n (dctP (insP ks p))) := by
  unfold stPut
  simp only [h, dctP]
  rw [if_pos ⟨fitK_P ks p, by rw [List.length_map]; exact hl⟩, dPut_P]
theorem fSorted_P {S : Store} {n : Nat} {ks : List P2} (h : S[n]? = some (dctP ks)) (hl : ks.length ≤ sizeLine) : fSorted false [.ref n] S = some (.lst ((sortP ks).map pairD), S) := by
  unfold fSorted itemsOf
  have e : dctOf S (.ref n) = some (ks.map entP) := by simp only [dctOf, h, dctP]
  simp only [e, Option.bind_some, List.map_map]
  have e2 : (ks.map ((fun x => x.1) ∘ entP)) = ks.map pairD := rfl
  rw [e2, if_pos (sortOk_pairs ks), sortD_pairs, newL_f (by rw [List.length_map, sortP, List.length_mergeSort]; exact hl)]
theorem opIn_P {S : Store} {n : Nat} {ks : List P2} {p : P2} {neg : Bool} (h : S[n]? = some (dctP ks)) : opIn neg (pairD p) (.ref n) S = some (.bl (neg != decide (p ∈ ks)), S) := by
  unfold opIn pairD
  have e : dctOf S (.ref n) = some (ks.map entP) := by simp only [dctOf, h, dctP]
  simp only [e]
  have f := fitK_P ks p
  unfold pairD at f
  rw [if_pos f]
  have g := dGet_P ks p
  unfold pairD at g
  rw [g]
  by_cases h : p ∈ ks <;> simp [h]
/-! ### folds -/
def Turn (o : Option Res) (P : EnvD → Store → Prop) : Prop := match o with
  | some (.nx ρ S) => P ρ S
  | some (.ct ρ S) => P ρ S
  | _ => False
@[simp] theorem Turn_nx {ρ : EnvD} {S : Store} {P : EnvD → Store → Prop} : Turn (some (.nx ρ S)) P ↔ P ρ S := Iff.rfl
@[simp] theorem Turn_ct {ρ : EnvD} {S : Store} {P : EnvD → Store → Prop} : Turn (some (.ct ρ S)) P ↔ P ρ S := Iff.rfl
theorem forL_fold {α τ : Type} {g : Store → Bool} {tg : FG} {body : MS} (enc : α → D) (f : τ → α → τ) (I : List α → τ → EnvD → Store → Prop)
    (step : ∀ a as t ρ S, I (a :: as) t ρ S → g S = true ∧ ∃ ρ1, tg (enc a) ρ = some ρ1 ∧ Turn (body ρ1 S) fun ρ2 S2 => I as (f t a) ρ2 S2)
    (done : ∀ t ρ S, I [] t ρ S → g S = true) : ∀ (as : List α) (t : τ) (ρ : EnvD) (S : Store), I as t ρ S → ∃ ρ' S', forL g tg body (as.map enc) ρ S = some (.nx ρ' S') ∧ I [] (as.foldl f t) ρ' S'
  | [], t, ρ, S, h => ⟨ρ, S, by rw [List.map_nil, forL, if_pos (done t ρ S h)], h⟩
  | a :: as, t, ρ, S, h => by
    obtain ⟨h1, ρ1, h2, h3⟩ := step a as t ρ S h
    cases hb : body ρ1 S with
    | none => rw [hb] at h3; exact h3.elim
    | some r =>
      rw [hb] at h3
      cases r with
      | nx ρ2 S2 =>
        obtain ⟨ρ', S', h5, h6⟩ := forL_fold enc f I step done as (f t a) ρ2 S2 h3
        exact ⟨ρ', S', by rw [List.map_cons, forL, if_pos h1, h2]; simp [hb, h5], h6⟩
      | ct ρ2 S2 =>
        obtain ⟨ρ', S', h5, h6⟩ := forL_fold enc f I step done as (f t a) ρ2 S2 h3
        exact ⟨ρ', S', by rw [List.map_cons, forL, if_pos h1, h2]; simp [hb, h5], h6⟩
      | rt d S2 => exact h3.elim
      | bk ρ2 S2 => exact h3.elim
theorem rangeD_zero (n : Nat) : rangeD 0 n = (List.range n).map fun i => D.int (i : Nat) := by
  unfold rangeD
  exact List.map_congr_left fun i _ => by simp
end Ev
end L2

namespace L2
namespace Ev
open PyProof.Rows PySem.Spec PySem L2
variable [Tb]
/-! ### fans and spreads drawn -/
abbrev Fan := P2 × List P2
def fanD (f : Fan) : D := .tup [pairD f.1, .tup (f.2.map pairD)]
def spreadD (s : List Fan) : D := .tup (s.map fanD)
def cnt0 (n : Int) : Int := ([0, 1, 1, 2, 2, 3, 4] : List Int).getD (n / 256 % 7).toNat 0
def cntV (n : Int) : Nat := (cnt0 n).toNat
def stepV (n : Int) (k : Nat) : P2 := let h := drawnV n k; if h % 8 = 1 then (h / 4 % 5, h / 64 % 5) else (h / 4 % 4, h / 64 % 4)
def stepsV (n : Int) : List P2 := (List.range (cntV n)).foldl (fun ks k => insP ks (stepV n k)) []
def fanV (n m : Int) : Fan := ((n % (m + 1), n / 16 % (m + 1)), (sortP (stepsV n)).filter fun p => !decide (p = (0, 0)))
def p_law_fan : List D → M D := fun ds S => match ds with
  | [.int n, .int m] => if 0 ≤ m then some (fanD (fanV n m), S) else none
  | _ => none
def cnt1 (n : Int) : Int := ([0, 1, 1, 2, 2, 3, 4, 2] : List Int).getD (n % 8).toNat 0
def cntS (n : Int) : Nat := (cnt1 n).toNat
def spreadV (n m : Int) : List Fan := (List.range (cntS n)).map fun k => fanV (drawnV n (20 + (k : Nat))) m
def p_law_spread : List D → M D := fun ds S => match ds with
  | [.int n, .int m] => if 0 ≤ m then some (spreadD (spreadV n m), S) else none
  | _ => none
noncomputable def l1_law_fan : MS := (sSeq (sAsg (eCall 2 p_law_drawn (aCons (eV 0) (aCons (eV 4) aNil))) (gN 5)) (sSeq (sAsg (eTup (aCons (eBin opMod (eBin opFdiv (eV 5) (eC (.int 4))) (eC (.int 4))) (aCons (eBin opMod (eBin opFdiv (eV 5) (eC (.int 64))) (eC (.int 4))) aNil))) (gN 6)) (sSeq (sIf (tOf (eBin (opEq false) (eBin opMod (eV 5) (eC (.int 8))) (eC (.int 1)))) (sAsg (eTup (aCons (eBin opMod (eBin opFdiv (eV 5) (eC (.int 4))) (eC (.int 5))) (aCons (eBin opMod (eBin opFdiv (eV 5) (eC (.int 64))) (eC (.int 5))) aNil))) (gN 6)) sNx) (sPut (eV 3) (eV 6) (eC (.bl true))))))
noncomputable def b_law_fan : MS := (sSeq (sAsg (eTup (aCons (eBin opMod (eV 0) (eBin (opAdd false) (eV 1) (eC (.int 1)))) (aCons (eBin opMod (eBin opFdiv (eV 0) (eC (.int 16))) (eBin (opAdd false) (eV 1) (eC (.int 1)))) aNil))) (gN 2)) (sSeq (sAsg eDnew (gN 3)) (sSeq (sFor (iRng1D (aCons (eBin opSub2 (eTup (aCons (eC (.int 0)) (aCons (eC (.int 1)) (aCons (eC (.int 1)) (aCons (eC (.int 2)) (aCons (eC (.int 2)) (aCons (eC (.int 3)) (aCons (eC (.int 4)) aNil)))))))) (eBin opMod (eBin opFdiv (eV 0) (eC (.int 256))) (eC (.int 7)))) aNil)) (gN 4) l1_law_fan) (sRet (eTup (aCons (eV 2) (aCons (eFn fTuple (aCons (eLc false [6] (iSeq (eFn (fSorted false) (aCons (eV 3) aNil))) (gN 6) (tOf (eBin (opEq true) (eV 6) (eTup (aCons (eC (.int 0)) (aCons (eC (.int 0)) aNil))))) (eV 6)) aNil)) aNil)))))))
noncomputable def g_law_fan : List D → M D := runDef 7 b_law_fan
noncomputable def b_law_spread : MS := (sRet (eFn fTuple (aCons (eLc false [2] (iRng1D (aCons (eBin opSub2 (eTup (aCons (eC (.int 0)) (aCons (eC (.int 1)) (aCons (eC (.int 1)) (aCons (eC (.int 2)) (aCons (eC (.int 2)) (aCons (eC (.int 3)) (aCons (eC (.int 4)) (aCons (eC (.int 2)) aNil))))))))) (eBin opMod (eV 0) (eC (.int 8)))) aNil)) (gN 2) tTrue (eCall 2 p_law_fan (aCons (eCall 2 p_law_drawn (aCons (eV 0) (aCons (eBin (opAdd false) (eC (.int 20)) (eV 2)) aNil))) (aCons (eV 1) aNil)))) aNil)))
noncomputable def g_law_spread : List D → M D := runDef 3 b_law_spread
theorem noB_fan (f : Fan) : D.noB (fanD f) = true := by
  simp [fanD, D.noB, D.noBs, noBs_map]
theorem noB_spread (s : List Fan) : D.noB (spreadD s) = true := by
  simp [spreadD, D.noB, noBs_map, noB_fan]
theorem size_le {n : Nat} (h : n ≤ 1000000) : n ≤ sizeLine := by rw [sizeLine_eq]; omega
theorem size_lt {n : Nat} (h : n ≤ 1000000) : n < sizeLine := by rw [sizeLine_eq]; omega
theorem tab_at (n : Int) (ns : List Int) (h : ns ≠ []) : atI (ns.map D.int) (n % (ns.length : Int)) = some (.int (ns.getD (n % (ns.length : Int)).toNat 0)) := by
  have hl : 0 < ns.length := List.length_pos_iff.mpr h
  have h0 := Int.emod_nonneg n (b := (ns.length : Int)) (by omega)
  have h1 := Int.emod_lt_of_pos n (b := (ns.length : Int)) (by omega)
  refine atI_pos h0 ?_
  rw [List.getElem?_map, List.getElem?_eq_getElem (by omega), List.getD_eq_getElem?_getD, List.getElem?_eq_getElem (by omega)]; rfl
theorem cnt0_b (n : Int) : 0 ≤ cnt0 n ∧ cnt0 n ≤ 4 := by
  have h0 := Int.emod_nonneg (n / 256) (b := 7) (by decide)
  have h1 := Int.emod_lt_of_pos (n / 256) (b := 7) (by decide)
  unfold cnt0
  generalize hk : (n / 256 % 7).toNat = k
  have hk' : k < 7 := by omega
  clear hk h0 h1
  revert k
  decide
theorem cnt1_b (n : Int) : 0 ≤ cnt1 n ∧ cnt1 n ≤ 4 := by
  have h0 := Int.emod_nonneg n (b := 8) (by decide)
  have h1 := Int.emod_lt_of_pos n (b := 8) (by decide)
  unfold cnt1
  generalize hk : (n % 8).toNat = k
  have hk' : k < 8 := by omega
  clear hk h0 h1
  revert k
  decide
theorem ok62_small {i : Int} (h0 : 0 ≤ i) (h1 : i ≤ 1000000) : ok62 i = true := by unfold ok62; simp; omega
theorem drawn_r (n k : Int) (S : Store) : p_law_drawn [.int n, .int k] S = some (.int (drawnV n k), S) := rfl
theorem foldl_insP_len (n : Int) : ∀ (l : List Nat) (ks : List P2), (l.foldl (fun ks k => insP ks (stepV n k)) ks).length ≤ ks.length + l.length
  | [], ks => Nat.le_refl _
  | a :: l, ks => by
    have h1 := foldl_insP_len n l (insP ks (stepV n a))
    have h2 := insP_len ks (stepV n a)
    rw [List.foldl_cons, List.length_cons]; omega
theorem stepsV_len (n : Int) : (stepsV n).length ≤ 4 := by
  have h := foldl_insP_len n (List.range (cntV n)) []
  have h2 := cnt0_b n; have h3 : cntV n ≤ 4 := by unfold cntV; omega
  rw [List.length_range, List.length_nil] at h
  unfold stepsV; omega
theorem r_law_fan : Refines g_law_fan p_law_fan := fun ds S d S1 h => by
  unfold p_law_fan at h
  split at h
  · rename_i n m
    split at h
    · rename_i hm
      cases h
      refine .inr ⟨[], [dctP (stepsV n)], by simp, ?_, low_noB _ (noB_fan _), by simp⟩
      have c0 := cnt0_b n
      have c2 : cntV n ≤ 4 := by unfold cntV; omega
      have c3 : ok62 (cnt0 n) = true := ok62_small c0.1 (by omega)
      have et : atI ([0, 1, 1, 2, 2, 3, 4].map D.int) (n / 256 % 7) = some (.int (cnt0 n)) := tab_at (n / 256) [0, 1, 1, 2, 2, 3, 4] (by simp)
      simp only [List.map_cons, List.map_nil] at et
      obtain ⟨ρ', S', h1, ⟨x4, x5, x6, rfl, rfl⟩, _⟩ := forL_fold (g := gYes) (tg := gN 4) (body := l1_law_fan)
        (fun i : Nat => D.int i) (fun ks k => insP ks (stepV n k))
        (fun as ks ρ S2 => (∃ x4 x5 x6, ρ = [some (.int n), some (.int m), some (.tup [.int (n % (m + 1)), .int (n / 16 % (m + 1))]), some (.ref S.length), x4, x5, x6] ∧ S2 = S ++ [.dct (ks.map entP)]) ∧ ks.length + as.length ≤ 4) (by
          rintro a as ks ρ S2 ⟨⟨x4, x5, x6, rfl, rfl⟩, hl⟩
          simp only [List.length_cons] at hl
          have key : ∀ p : P2, stPut (.ref S.length) (.tup [.int p.1, .int p.2]) (.bl true) (S ++ [.dct (ks.map entP)]) = some (S ++ [.dct ((insP ks p).map entP)]) := fun p => by
            have z := stPut_P (S := S ++ [.dct (ks.map entP)]) (n := S.length) (ks := ks) (p := p) at_len (size_lt (by omega))
            rw [set_len] at z; exact z
          have hz : ∀ p, (insP ks p).length + as.length ≤ 4 := fun p => by have := insP_len ks p; omega
          refine ⟨rfl, _, rfl, ?_⟩
          by_cases h8 : drawnV n a % 8 = 1
          · have k := key (drawnV n a / 4 % 5, drawnV n a / 64 % 5)
            simp [l1_law_fan, drawn_r, h8, k, stepV, hz]
          · have k := key (drawnV n a / 4 % 4, drawnV n a / 64 % 4)
            simp [l1_law_fan, drawn_r, h8, k, stepV, hz]) (fun _ _ _ _ => rfl)
        (List.range (cntV n)) [] [some (.int n), some (.int m), some (.tup [.int (n % (m + 1)), .int (n / 16 % (m + 1))]), some (.ref S.length), none, none, none] (S ++ [.dct []]) ⟨⟨none, none, none, rfl, rfl⟩, by simpa using c2⟩
      have hm1 : 0 < m + 1 := by omega
      have h1' : forL gYes (gN 4) l1_law_fan (List.map (fun i => D.int (i : Nat)) (List.range (cnt0 n).toNat)) [some (.int n), some (.int m), some (.tup [.int (n % (m + 1)), .int (n / 16 % (m + 1))]), some (.ref S.length), none, none, none] (S ++ [.dct []]) = _ := h1
      have h2 : fSorted false [.ref S.length] (S ++ [.dct ((stepsV n).map entP)]) = some (.lst ((sortP (stepsV n)).map pairD), S ++ [.dct ((stepsV n).map entP)]) := fSorted_P (ks := stepsV n) at_len (size_le (by have := stepsV_len n; omega))
      have h3 : compL gYes [6] (gN 6) (tOf (eBin (opEq true) (eV 6) (eTup (aCons (eC (D.int 0)) (aCons (eC (D.int 0)) aNil))))) (eV 6) ((sortP (stepsV n)).map pairD) [some (.int n), some (.int m), some (.tup [.int (n % (m + 1)), .int (n / 16 % (m + 1))]), some (.ref S.length), x4, x5, x6] (S ++ [.dct ((stepsV n).map entP)]) [] = some (((sortP (stepsV n)).filter fun p => !decide (p = (0, 0))).map pairD, S ++ [.dct ((stepsV n).map entP)]) := by
        rw [compL_pure rfl (fun d => !decide (d = pairD (0, 0))) id]
        · rw [List.filter_map, List.map_map, List.nil_append]
          have : ((fun d => !decide (d = pairD (0, 0))) ∘ pairD) = fun p => !decide (p = (0, 0)) := by funext p; simp
          rw [this]; rfl
        · intro d hd
          obtain ⟨p, hp, rfl⟩ := List.mem_map.mp hd
          refine ⟨_, rfl, ?_, fun _ => ?_⟩
          · have z : D.tup [.int 0, .int 0] = pairD (0, 0) := rfl
            simp [wipeD, z]
          · simp [wipeD]
        · have := stepsV_len n
          rw [List.length_nil, List.length_map, sortP, List.length_mergeSort]; exact size_le (by omega)
      have h4 : (((sortP (stepsV n)).filter fun p => !decide (p = (0, 0))).map pairD).length ≤ sizeLine := by
        rw [List.length_map]
        have := stepsV_len n
        have z := List.length_filter_le (fun p => !decide (p = (0, 0))) (sortP (stepsV n))
        rw [sortP, List.length_mergeSort] at z
        exact size_le (by unfold sortP; omega)
      have e : List.foldl (fun ks k => insP ks (stepV n k)) [] (List.range (cntV n)) = stepsV n := rfl
      rw [e] at h1'
      simp only [g_law_fan, runDef, b_law_fan]
      simp [hm1, et, c3, rangeD_zero, h1', h2, h3, newL_f h4]
      exact ⟨rfl, rfl⟩
    · cases h
  · cases h
theorem fan_r {n m : Int} (hm : 0 ≤ m) (S : Store) : p_law_fan [.int n, .int m] S = some (fanD (fanV n m), S) := by simp [p_law_fan, hm]
theorem spreadV_len (n m : Int) : (spreadV n m).length ≤ 4 := by
  have := cnt1_b n
  unfold spreadV cntS; rw [List.length_map, List.length_range]; omega
theorem r_law_spread : Refines g_law_spread p_law_spread := fun ds S d S1 h => by
  unfold p_law_spread at h
  split at h
  · rename_i n m
    split at h
    · rename_i hm
      cases h
      refine .inl ?_
      have c0 := cnt1_b n
      have c3 : ok62 (cnt1 n) = true := ok62_small c0.1 (by omega)
      have et : atI ([0, 1, 1, 2, 2, 3, 4, 2].map D.int) (n % 8) = some (.int (cnt1 n)) := tab_at n [0, 1, 1, 2, 2, 3, 4, 2] (by simp)
      simp only [List.map_cons, List.map_nil] at et
      have h3 : compL gYes [2] (gN 2) tTrue (eCall 2 p_law_fan (aCons (eCall 2 p_law_drawn (aCons (eV 0) (aCons (eBin (opAdd false) (eC (.int 20)) (eV 2)) aNil))) (aCons (eV 1) aNil))) (rangeD 0 (cnt1 n).toNat) [some (.int n), some (.int m), none] S [] = some ((spreadV n m).map fanD, S) := by
        rw [compL_map rfl (fun d => match d with | .int k => fanD (fanV (drawnV n (20 + k)) m) | _ => .non)]
        · rw [rangeD_zero, List.map_map]; unfold spreadV; rw [List.map_map]; rfl
        · intro d hd
          rw [rangeD_zero] at hd
          obtain ⟨k, hk, rfl⟩ := List.mem_map.mp hd
          refine ⟨_, rfl, ?_⟩
          simp [wipeD, drawn_r, fan_r hm]
        · rw [rangeD_zero, List.length_map, List.length_range]; exact size_le (by omega)
      have h4 : ((spreadV n m).map fanD).length ≤ sizeLine := by
        rw [List.length_map]; exact size_le (by have := spreadV_len n m; omega)
      simp only [g_law_spread, runDef, b_law_spread]
      simp [et, c3, h3, newL_f h4]
      rfl
    · cases h
  · cases h
end Ev
end L2

namespace L2
namespace Ev
open PyProof.Rows PySem.Spec PySem L2
variable [Tb]
/-! ### grammars drawn -/
inductive Part where
  | a | b | nm (i : Int)
deriving DecidableEq
instance : Inhabited Part := ⟨.a⟩
def partD : Part → D
  | .a => .str "a"
  | .b => .str "b"
  | .nm i => .int i
def Part.isNm : Part → Bool
  | .nm _ => true
  | _ => false
abbrev Side := List Part
abbrev Row := List Side
abbrev Gram := List Row
def sideD (s : Side) : D := .tup (s.map partD)
def rowD (r : Row) : D := .tup (r.map sideD)
def gramD (g : Gram) : D := .tup (g.map rowD)
def cnt2 (n : Int) : Int := ([1, 2, 3, 2, 1, 3, 0, 2] : List Int).getD (n % 8).toNat 0
def partV (n many : Int) (plain : Bool) (found : Side) (k : Nat) : Part :=
  let h := drawnV n k
  if plain = false ∧ h / 16 % 2 = 0 ∧ (found.filter Part.isNm).length < 2 then .nm (h / 64 % many) else if h / 4 % 2 = 0 then .a else .b
def sideV (n many : Int) (plain : Bool) : Side := (List.range (cnt2 n).toNat).foldl (fun f k => f ++ [partV n many plain f k]) []
def p_law_side : List D → M D := fun ds S => match ds with
  | [.int n, .int many, .bl plain] => if 0 < many then some (sideD (sideV n many plain), S) else none
  | _ => none
def cnt3 (n : Int) : Int := ([1, 2, 1, 0, 2] : List Int).getD (n / 72 % 5).toNat 0
def rowV0 (n many : Int) (name : Nat) : Row :=
  let h := drawnV n (30 + (name : Nat))
  sideV h many (decide (h / 8 % 9 > 0)) :: (List.range (cnt3 h).toNat).map fun k : Nat => sideV (drawnV h k) many false
def rowV (n many : Int) (name : Nat) : Row :=
  let r := rowV0 n many name
  let by_ := (drawnV n (30 + (name : Nat)) / 512 % (r.length : Int)).toNat
  r.drop by_ ++ r.take by_
def manyV (n : Int) : Nat := (1 + n % 2).toNat
def gramV (n : Int) : Gram :=
  let rows := (List.range (manyV n)).map fun i => rowV n (manyV n : Nat) i
  if n / 2 % 16 = 1 then rows.set (manyV n - 1) [] else rows
def p_law_grammar : List D → M D := fun ds S => match ds with
  | [.int n] => some (gramD (gramV n), S)
  | _ => none
noncomputable def l1_law_side : MS := (sSeq (sAsg (eCall 2 p_law_drawn (aCons (eV 0) (aCons (eV 4) aNil))) (gN 5)) (sSeq (sAsg (eBin opSub2 (eC (.str "ab")) (eBin opMod (eBin opFdiv (eV 5) (eC (.int 4))) (eC (.int 2)))) (gN 6)) (sSeq (sAsg (eLc false [8] (iSeq (eV 3)) (gN 8) (tNotD (tOf (eIsi "str" (eV 8)))) (eV 8)) (gN 7)) (sSeq (sIf (tAndD (tNotD (tOf (eV 2))) (tAndD (tOf (eBin (opEq false) (eBin opMod (eBin opFdiv (eV 5) (eC (.int 16))) (eC (.int 2))) (eC (.int 0)))) (tOf (eBin opLt (eFn fLen (aCons (eV 7) aNil)) (eC (.int 2)))))) (sAsg (eBin opMod (eBin opFdiv (eV 5) (eC (.int 64))) (eV 1)) (gN 6)) sNx) (sAsg (eBin (opAdd false) (eV 3) (eTup (aCons (eV 6) aNil))) (gN 3))))))
noncomputable def b_law_side : MS := (sSeq (sAsg (eTup aNil) (gN 3)) (sSeq (sFor (iRng1D (aCons (eBin opSub2 (eTup (aCons (eC (.int 1)) (aCons (eC (.int 2)) (aCons (eC (.int 3)) (aCons (eC (.int 2)) (aCons (eC (.int 1)) (aCons (eC (.int 3)) (aCons (eC (.int 0)) (aCons (eC (.int 2)) aNil))))))))) (eBin opMod (eV 0) (eC (.int 8)))) aNil)) (gN 4) l1_law_side) (sRet (eV 3))))
noncomputable def g_law_side : List D → M D := runDef 9 b_law_side
noncomputable def l1_law_grammar : MS := (sAsg (eBin (opAdd false) (eV 5) (eTup (aCons (eCall 3 p_law_side (aCons (eCall 2 p_law_drawn (aCons (eV 4) (aCons (eV 6) aNil))) (aCons (eV 1) (aCons (eC (.bl false)) aNil)))) aNil))) (gN 5))
noncomputable def l2_law_grammar : MS := (sSeq (sAsg (eCall 2 p_law_drawn (aCons (eV 0) (aCons (eBin (opAdd false) (eC (.int 30)) (eV 3)) aNil))) (gN 4)) (sSeq (sAsg (eTup (aCons (eCall 3 p_law_side (aCons (eV 4) (aCons (eV 1) (aCons (eBin opGt (eBin opMod (eBin opFdiv (eV 4) (eC (.int 8))) (eC (.int 9))) (eC (.int 0))) aNil)))) aNil)) (gN 5)) (sSeq (sFor (iRng1D (aCons (eBin opSub2 (eTup (aCons (eC (.int 1)) (aCons (eC (.int 2)) (aCons (eC (.int 1)) (aCons (eC (.int 0)) (aCons (eC (.int 2)) aNil)))))) (eBin opMod (eBin opFdiv (eV 4) (eC (.int 72))) (eC (.int 5)))) aNil)) (gN 6) l1_law_grammar) (sSeq (sAsg (eBin opMod (eBin opFdiv (eV 4) (eC (.int 512))) (eFn fLen (aCons (eV 5) aNil))) (gN 7)) (sDrop (eMeth "list" mAppend (eV 2) (aCons (eBin (opAdd false) (eSl false (eV 5) (oYes (eV 7)) oNo) (eSl false (eV 5) oNo (oYes (eV 7)))) aNil)))))))
noncomputable def b_law_grammar : MS := (sSeq (sAsg (eBin (opAdd false) (eC (.int 1)) (eBin opMod (eV 0) (eC (.int 2)))) (gN 1)) (sSeq (sAsg (eLst true aNil) (gN 2)) (sSeq (sFor (iRng1D (aCons (eV 1) aNil)) (gN 3) l2_law_grammar) (sSeq (sIf (tOf (eBin (opEq false) (eBin opMod (eBin opFdiv (eV 0) (eC (.int 2))) (eC (.int 16))) (eC (.int 1)))) (sPut (eV 2) (eBin opSub (eV 1) (eC (.int 1))) (eTup aNil)) sNx) (sRet (eFn fTuple (aCons (eV 2) aNil)))))))
noncomputable def g_law_grammar : List D → M D := runDef 8 b_law_grammar
theorem noB_part (p : Part) : D.noB (partD p) = true := by cases p <;> rfl
theorem noB_side (s : Side) : D.noB (sideD s) = true := by unfold sideD; rw [D.noB]; exact noBs_map _ fun p _ => noB_part p
theorem noB_row (s : Row) : D.noB (rowD s) = true := by unfold rowD; rw [D.noB]; exact noBs_map _ fun p _ => noB_side p
theorem noB_gram (s : Gram) : D.noB (gramD s) = true := by unfold gramD; rw [D.noB]; exact noBs_map _ fun p _ => noB_row p
theorem cnt2_b (n : Int) : 0 ≤ cnt2 n ∧ cnt2 n ≤ 3 := by
  have h0 := Int.emod_nonneg n (b := 8) (by decide)
  have h1 := Int.emod_lt_of_pos n (b := 8) (by decide)
  unfold cnt2
  generalize hk : (n % 8).toNat = k
  have hk' : k < 8 := by omega
  clear hk h0 h1
  revert k
  decide
theorem cnt3_b (n : Int) : 0 ≤ cnt3 n ∧ cnt3 n ≤ 2 := by
  have h0 := Int.emod_nonneg (n / 72) (b := 5) (by decide)
  have h1 := Int.emod_lt_of_pos (n / 72) (b := 5) (by decide)
  unfold cnt3
  generalize hk : (n / 72 % 5).toNat = k
  have hk' : k < 5 := by omega
  clear hk h0 h1
  revert k
  decide
theorem ab_at {i : Int} (h : i % 2 = 0 ∨ i % 2 = 1) (S : Store) : opSub2 (.str "ab") (.int (i % 2)) S = some (partD (if i % 2 = 0 then .a else .b), S) := by
  rcases h with h | h
  · rw [h]; rfl
  · rw [h]; rfl
theorem mod2 (i : Int) : i % 2 = 0 ∨ i % 2 = 1 := by omega
theorem typ_part (S : Store) (p : Part) : typD S (partD p) = if p.isNm then "int" else "str" := by cases p <;> rfl
theorem sideV_fold_len (n many : Int) (plain : Bool) : ∀ (l : List Nat) (f : Side), (l.foldl (fun f k => f ++ [partV n many plain f k]) f).length = f.length + l.length
  | [], f => rfl
  | a :: l, f => by rw [List.foldl_cons, sideV_fold_len n many plain l, List.length_append, List.length_cons, List.length_cons, List.length_nil]; omega
theorem sideV_len (n many : Int) (plain : Bool) : (sideV n many plain).length ≤ 3 := by
  have := cnt2_b n
  unfold sideV; rw [sideV_fold_len, List.length_range, List.length_nil]; omega
theorem r_law_side : Refines g_law_side p_law_side := fun ds S d S1 h => by
  unfold p_law_side at h
  split at h
  · rename_i n many plain
    split at h
    · rename_i hm
      cases h
      refine .inl ?_
      have c0 := cnt2_b n
      have c3 : ok62 (cnt2 n) = true := ok62_small c0.1 (by omega)
      have et : atI ([1, 2, 3, 2, 1, 3, 0, 2].map D.int) (n % 8) = some (.int (cnt2 n)) := tab_at n [1, 2, 3, 2, 1, 3, 0, 2] (by simp)
      simp only [List.map_cons, List.map_nil] at et
      obtain ⟨ρ', S', h1, ⟨x4, x5, x6, x7, x8, rfl, rfl⟩, _⟩ := forL_fold (g := gYes) (tg := gN 4) (body := l1_law_side)
        (fun i : Nat => D.int i) (fun f k => f ++ [partV n many plain f k])
        (fun as f ρ S2 => (∃ x4 x5 x6 x7 x8, ρ = [some (.int n), some (.int many), some (.bl plain), some (.tup (f.map partD)), x4, x5, x6, x7, x8] ∧ S2 = S) ∧ f.length + as.length ≤ 3) (by
          rintro a as f ρ S2 ⟨⟨x4, x5, x6, x7, x8, rfl, rfl⟩, hl⟩
          simp only [List.length_cons] at hl
          refine ⟨rfl, _, rfl, ?_⟩
          have hc : ∀ ρ : EnvD, ρ.length = 9 → compL gYes [8] (gN 8) (tNotD (tOf (eIsi "str" (eV 8)))) (eV 8) (f.map partD) ρ S2 [] = some ((f.filter Part.isNm).map partD, S2) := fun ρ hρ => by
            rw [compL_pure rfl (fun d => !decide (typD [] d = "str")) id]
            · rw [List.filter_map, List.map_map, List.nil_append]
              have : ((fun d => !decide (typD [] d = "str")) ∘ partD) = Part.isNm := by funext p; cases p <;> rfl
              rw [this]; rfl
            · intro d hd
              obtain ⟨p, hp, rfl⟩ := List.mem_map.mp hd
              have e8 : ∀ d : D, eV 8 (((wipeD ρ [8])).set 8 (some d)) S2 = some (d, S2) := fun d => by
                unfold eV
                rw [List.getElem?_set_self (by simp [wipeD, hρ])]
              refine ⟨_, rfl, ?_, fun _ => e8 _⟩
              simp only [tNotD_r, tOf_r, eIsi_r, e8, Option.bind_some]
              cases p <;> rfl
            · rw [List.length_nil, List.length_map]; exact size_le (by omega)
          have hlen : ((f.filter Part.isNm).map partD).length ≤ sizeLine := by
            rw [List.length_map]; exact size_le (by have := List.length_filter_le Part.isNm f; omega)
          have hadd : ∀ d, opAdd false (.tup (f.map partD)) (.tup [d]) S2 = some (.tup (f.map partD ++ [d]), S2) := fun d => opAdd_tup (by rw [List.length_map]; exact size_le (by rw [List.length_singleton]; omega))
          have hab := ab_at (mod2 (drawnV n a / 4)) S2
          have hfl : ∀ p, (f ++ [p]).length + as.length ≤ 3 := fun p => by rw [List.length_append, List.length_singleton]; omega
          have hcc := fun x4 x5 x6 x7 x8 => hc [some (.int n), some (.int many), some (.bl plain), some (.tup (f.map partD)), x4, x5, x6, x7, x8] rfl
          simp [l1_law_side, drawn_r, hab, hcc, newL_f hlen, fLen, readOf, listOf, hm]
          have q4 : (((f.filter Part.isNm).length : Int) < 2) = ((f.filter Part.isNm).length < 2) := by simp only [eq_iff_iff]; omega
          have hl2 : f.length + 1 + as.length ≤ 3 := by omega
          simp only [q4]
          by_cases q1 : plain = false <;> by_cases q2 : drawnV n a / 16 % 2 = 0 <;> by_cases q3 : (f.filter Part.isNm).length < 2 <;> simp [q1, q2, q3, hadd, partV, partD, hl2]) (fun _ _ _ _ => rfl)
        (List.range (cnt2 n).toNat) [] [some (.int n), some (.int many), some (.bl plain), some (.tup []), none, none, none, none, none] S ⟨⟨none, none, none, none, none, rfl, rfl⟩, by simp; omega⟩
      simp only [g_law_side, runDef, b_law_side]
      simp [et, c3, rangeD_zero, h1]
      rfl
    · cases h
  · cases h
theorem side_r {n m : Int} {b : Bool} (hm : 0 < m) (S : Store) : p_law_side [.int n, .int m, .bl b] S = some (sideD (sideV n m b), S) := by simp [p_law_side, hm]
theorem foldl_app {α β : Type} (g : β → α) : ∀ (l : List β) (r : List α), l.foldl (fun r k => r ++ [g k]) r = r ++ l.map g
  | [], r => by simp
  | a :: l, r => by rw [List.foldl_cons, foldl_app g l]; simp
theorem cutD_from {xs : List D} {k : Int} (h : 0 ≤ k) (h2 : k.toNat ≤ xs.length) : cutD xs (some k) none = xs.drop k.toNat := by
  unfold cutD
  have e : HT.sIx xs.length 0 (some k) = k.toNat := by
    have := HT.sIx_nat xs.length 0 k.toNat
    rw [Int.toNat_of_nonneg h] at this
    rw [this]; omega
  rw [e, HT.sIx_none]
  exact List.take_of_length_le (by rw [List.length_drop]; exact Nat.le_refl _)
theorem cutD_to {xs : List D} {k : Int} (h : 0 ≤ k) (h2 : k.toNat ≤ xs.length) : cutD xs none (some k) = xs.take k.toNat := by
  unfold cutD
  have e : HT.sIx xs.length xs.length (some k) = k.toNat := by
    have := HT.sIx_nat xs.length xs.length k.toNat
    rw [Int.toNat_of_nonneg h] at this
    rw [this]; omega
  rw [e, HT.sIx_none, List.drop_zero, Nat.sub_zero]
theorem rowV0_len (n many : Int) (i : Nat) : 1 ≤ (rowV0 n many i).length ∧ (rowV0 n many i).length ≤ 3 := by
  have := cnt3_b (drawnV n (30 + (i : Nat)))
  unfold rowV0; simp only [List.length_cons, List.length_map, List.length_range]; omega
theorem row_loop (n many : Int) (hm : 0 < many) (i : Nat) (x2 x6 x7 : Option D) (S : Store) : ∃ x6' x7', forL gYes (gN 6) l1_law_grammar ((List.range (cnt3 (drawnV n (30 + (i : Nat)))).toNat).map fun k => D.int (k : Nat))
    [some (.int n), some (.int many), x2, some (.int i), some (.int (drawnV n (30 + (i : Nat)))), some (.tup [sideD (sideV (drawnV n (30 + (i : Nat))) many (decide (drawnV n (30 + (i : Nat)) / 8 % 9 > 0)))]), x6, x7] S =
    some (.nx [some (.int n), some (.int many), x2, some (.int i), some (.int (drawnV n (30 + (i : Nat)))), some (.tup ((rowV0 n many i).map sideD)), x6', x7'] S) := by
  have c0 := cnt3_b (drawnV n (30 + (i : Nat)))
  obtain ⟨ρ', S', h1, ⟨x6', x7', rfl, rfl⟩, _⟩ := forL_fold (g := gYes) (tg := gN 6) (body := l1_law_grammar) (fun k : Nat => D.int k) (fun r k => r ++ [sideV (drawnV (drawnV n (30 + (i : Nat))) k) many false])
    (fun as r ρ S2 => (∃ x6 x7, ρ = [some (.int n), some (.int many), x2, some (.int i), some (.int (drawnV n (30 + (i : Nat)))), some (.tup (r.map sideD)), x6, x7] ∧ S2 = S) ∧ r.length + as.length ≤ 3) (by
      rintro a as r ρ S2 ⟨⟨x6, x7, rfl, rfl⟩, hl⟩
      simp only [List.length_cons] at hl
      have hadd : ∀ d, opAdd false (.tup (r.map sideD)) (.tup [d]) S2 = some (.tup (r.map sideD ++ [d]), S2) := fun d => opAdd_tup (by rw [List.length_map]; exact size_le (by rw [List.length_singleton]; omega))
      refine ⟨rfl, _, rfl, ?_⟩
      simp [l1_law_grammar, drawn_r, side_r hm, hadd]
      omega) (fun _ _ _ _ => rfl)
    (List.range (cnt3 (drawnV n (30 + (i : Nat)))).toNat) [sideV (drawnV n (30 + (i : Nat))) many (decide (drawnV n (30 + (i : Nat)) / 8 % 9 > 0))] _ S ⟨⟨x6, x7, rfl, rfl⟩, by simp; omega⟩
  refine ⟨x6', x7', ?_⟩
  rw [foldl_app] at h1
  exact h1
theorem manyV_b (n : Int) : 1 ≤ manyV n ∧ manyV n ≤ 2 ∧ ((manyV n : Nat) : Int) = 1 + n % 2 := by unfold manyV; omega
theorem gram_step (n m : Int) (hm : 0 < m) (a : Nat) (g : List Row) (hg : g.length ≤ 1) (x3 x4 x5 x6 x7 : Option D) (S : Store) (as : List Nat) (hl : g.length + 1 + as.length ≤ 2) :
    Turn (l2_law_grammar [some (.int n), some (.int m), some (.ref S.length), some (.int a), x4, x5, x6, x7] (S ++ [.lst (g.map rowD)])) fun ρ S2 =>
      (∃ x3 x4 x5 x6 x7, ρ = [some (.int n), some (.int m), some (.ref S.length), x3, x4, x5, x6, x7] ∧ S2 = S ++ [.lst ((g ++ [rowV n m a]).map rowD)]) ∧ (g ++ [rowV n m a]).length + as.length ≤ 2 := by
  obtain ⟨h, hh⟩ : ∃ h, h = drawnV n (30 + (a : Nat)) := ⟨_, rfl⟩
  have c0 := cnt3_b h
  have c3 : ok62 (cnt3 h) = true := ok62_small c0.1 (by omega)
  have et : atI ([1, 2, 1, 0, 2].map D.int) (h / 72 % 5) = some (.int (cnt3 h)) := tab_at (h / 72) [1, 2, 1, 0, 2] (by simp)
  simp only [List.map_cons, List.map_nil] at et
  obtain ⟨x6', x7', hr⟩ := row_loop n m hm a (some (.ref S.length)) x6 x7 (S ++ [.lst (g.map rowD)])
  have rl := rowV0_len n m a
  have hV : rowV n m a = (rowV0 n m a).drop (h / 512 % ((rowV0 n m a).length : Int)).toNat ++ (rowV0 n m a).take (h / 512 % ((rowV0 n m a).length : Int)).toNat := by rw [hh]; rfl
  rw [hV]
  rw [← hh] at hr
  generalize rowV0 n m a = r0 at *
  have hlen : (0 : Int) < (r0.length : Nat) := by omega
  have b0 := Int.emod_nonneg (h / 512) (b := (r0.length : Nat)) (by omega)
  have b1 := Int.emod_lt_of_pos (h / 512) hlen
  have hmod : ∀ x : Store, opMod (.int (h / 512)) (.int (r0.length : Nat)) x = some (.int (h / 512 % (r0.length : Nat)), x) := fun x => opMod_int hlen
  generalize h / 512 % (r0.length : Nat) = q at *
  have f1 := cutD_from (xs := r0.map sideD) b0 (by rw [List.length_map]; omega)
  have f2 := cutD_to (xs := r0.map sideD) b0 (by rw [List.length_map]; omega)
  have hz : (h / 8 % 9 > 0) = (0 < h / 8 % 9) := rfl
  simp only [hz] at hr
  have hadd : opAdd false (.tup ((r0.map sideD).drop q.toNat)) (.tup ((r0.map sideD).take q.toNat)) (S ++ [.lst (g.map rowD)]) = some (rowD (r0.drop q.toNat ++ r0.take q.toNat), S ++ [.lst (g.map rowD)]) := by
    rw [opAdd_tup (by rw [List.length_drop, List.length_take, List.length_map]; exact size_le (by omega))]
    unfold rowD
    rw [List.map_append, List.map_drop, List.map_take]
  have hap : ∀ y, mAppend (.ref S.length) [y] (S ++ [.lst (g.map rowD)]) = some (.non, S ++ [.lst (g.map rowD ++ [y])]) := fun y => by
    unfold mAppend
    simp only [at_len]
    rw [if_pos (by rw [List.length_map]; exact size_lt (by omega)), set_len]
  have hd : ∀ x : Store, p_law_drawn [.int n, .int (30 + (a : Nat))] x = some (.int h, x) := fun x => by rw [hh]; rfl
  simp only [l2_law_grammar]
  simp [hmod, hd, side_r hm, et, c3, rangeD_zero, hr, fLen, opSl, f1, f2, typD, hadd, hap]
  omega
theorem gram_loop (n m : Int) (hm : 0 < m) (S : Store) (k : Nat) (hk : k ≤ 2) : ∃ x3 x4 x5 x6 x7, forL gYes (gN 3) l2_law_grammar ((List.range k).map fun i => D.int (i : Nat)) [some (.int n), some (.int m), some (.ref S.length), none, none, none, none, none] (S ++ [.lst []]) =
    some (.nx [some (.int n), some (.int m), some (.ref S.length), x3, x4, x5, x6, x7] (S ++ [.lst (((List.range k).map fun i => rowV n m i).map rowD)])) := by
  obtain ⟨ρ', S', h1, ⟨x3, x4, x5, x6, x7, rfl, rfl⟩, _⟩ := forL_fold (g := gYes) (tg := gN 3) (body := l2_law_grammar) (fun k : Nat => D.int k) (fun g i => g ++ [rowV n m i])
    (fun as g ρ S2 => (∃ x3 x4 x5 x6 x7, ρ = [some (.int n), some (.int m), some (.ref S.length), x3, x4, x5, x6, x7] ∧ S2 = S ++ [.lst (g.map rowD)]) ∧ g.length + as.length ≤ 2) (by
      rintro a as g ρ S2 ⟨⟨x3, x4, x5, x6, x7, rfl, rfl⟩, hl⟩
      simp only [List.length_cons] at hl
      exact ⟨rfl, _, rfl, gram_step n m hm a g (by omega) x3 x4 x5 x6 x7 S as (by omega)⟩) (fun _ _ _ _ => rfl)
    (List.range k) [] [some (.int n), some (.int m), some (.ref S.length), none, none, none, none, none] (S ++ [.lst []]) ⟨⟨none, none, none, none, none, rfl, rfl⟩, by simp; omega⟩
  refine ⟨x3, x4, x5, x6, x7, ?_⟩
  rw [foldl_app, List.nil_append] at h1
  exact h1
theorem r_law_grammar : Refines g_law_grammar p_law_grammar := fun ds S d S1 h => by
  unfold p_law_grammar at h
  split at h
  · rename_i n
    cases h
    obtain ⟨m1, m2, m3⟩ := manyV_b n
    have e2 : gramV n = if n / 2 % 16 = 1 then ((List.range (manyV n)).map fun i => rowV n (manyV n : Nat) i).set (manyV n - 1) [] else (List.range (manyV n)).map fun i => rowV n (manyV n : Nat) i := rfl
    refine .inr ⟨[], [.lst ((gramV n).map rowD)], by simp, ?_, low_noB _ (noB_gram _), by simp⟩
    rw [e2]
    generalize manyV n = k at *
    obtain ⟨x3, x4, x5, x6, x7, h1⟩ := gram_loop n (k : Nat) (by omega) S k m2
    obtain ⟨rows, hrows⟩ : ∃ rows : Gram, rows = (List.range k).map fun i => rowV n (k : Nat) i := ⟨_, rfl⟩
    have hr : (rows.map rowD).length = k := by rw [hrows]; simp
    rw [← hrows] at h1 ⊢
    have c3 : ok62 ((k : Nat) : Int) = true := ok62_small (by omega) (by omega)
    have hlast : ixN (rows.map rowD).length ((k : Nat) - 1 : Int) = some (k - 1) := by
      have e : ((k : Nat) - 1 : Int).toNat = k - 1 := by omega
      rw [hr]; unfold ixN; rw [if_pos (by omega), if_pos (by omega), e]
    have hput : stPut (.ref S.length) (.int ((k : Nat) - 1)) (.tup []) (S ++ [.lst (rows.map rowD)]) = some (S ++ [.lst ((rows.map rowD).set (k - 1) (.tup []))]) := by
      unfold stPut
      simp only [at_len, hlast, Option.map_some, set_len]
    have hkk : (1 + n % 2).toNat = k := by omega
    rw [m3] at h1 c3 hput
    simp only [g_law_grammar, runDef, b_law_grammar]
    by_cases q : n / 2 % 16 = 1
    · simp [hkk, c3, rangeD_zero, h1, q, hput, fTuple, readOf, listOf, gramD]
      rfl
    · simp [hkk, c3, rangeD_zero, h1, q, fTuple, readOf, listOf, gramD]
  · cases h
end Ev
end L2

namespace L2
namespace Ev
open PyProof.Rows PySem.Spec PySem L2
variable [Tb]
/-! ### pure defs -/
noncomputable def pureP {α : Type} (enc : α → List D) (ok : α → Prop) (r : α → D) : List D → M D := fun ds S =>
  open Classical in if h : ∃ a, ok a ∧ ds = enc a then some (r h.choose, S) else none
theorem pureP_r {α : Type} {enc : α → List D} {ok : α → Prop} {r : α → D} (inj : ∀ a b, enc a = enc b → a = b) {a : α} (h : ok a) (S : Store) : pureP enc ok r (enc a) S = some (r a, S) := by
  unfold pureP
  have hx : ∃ b, ok b ∧ enc a = enc b := ⟨a, h, rfl⟩
  rw [dif_pos hx]
  rw [← inj _ _ hx.choose_spec.2]
theorem refines_pure {α : Type} {enc : α → List D} {ok : α → Prop} {r : α → D} {g : List D → M D} (h : ∀ a, ok a → ∀ S, ∃ j, g (enc a) S = some (r a, S ++ j)) (hl : ∀ a, ok a → ∀ n, D.low n (r a) = true) : Refines g (pureP enc ok r) := fun ds S d S1 e => by
  unfold pureP at e
  split at e
  · rename_i hx
    obtain ⟨h1, h2⟩ := hx.choose_spec
    cases e
    obtain ⟨j, hj⟩ := h _ h1 S
    refine .inr ⟨[], j, by simp, ?_, hl _ h1 _, by simp⟩
    exact (congrArg (fun z => g z S) h2).trans hj
  · cases e
theorem low_str (n : Nat) (x : Str) : D.low n (.str x) = true := rfl
theorem low_bl (n : Nat) (x : Bool) : D.low n (.bl x) = true := rfl
theorem low_int (n : Nat) (x : Int) : D.low n (.int x) = true := rfl
theorem map_inj {α β : Type} {f : α → β} (h : ∀ a b, f a = f b → a = b) : ∀ {l m : List α}, l.map f = m.map f → l = m
  | [], [], _ => rfl
  | [], _ :: _, e => by simp at e
  | _ :: _, [], e => by simp at e
  | a :: l, b :: m, e => by
    simp only [List.map_cons, List.cons.injEq] at e
    rw [h a b e.1, map_inj h e.2]
/-! ### texts -/
def tx (i : Int) : Str := Str.ofString (toString i)
def okI (i : Int) : Prop := i.natAbs < 2 ^ 1000 ∧ (tx i).length ≤ 1000
theorem fStr_int {i : Int} (h : okI i) (S : Store) : fStr [.int i] S = some (.str (tx i), S) := by
  unfold fStr
  simp only [h.1, if_true]
  rfl
theorem mJoin_r {a : Str} {ys : List Str} {n : Nat} (S : Store) (hy : ∀ y ∈ ys, y.length ≤ n) (hn : ys.length * n + ys.length * a.length ≤ 16777216) : mJoin (.str a) [.lst (ys.map .str)] S = some (.str (Txt.join a ys), S) := by
  have hs : (ys.map (·.length)).sum ≤ ys.length * n := by
    clear hn
    induction ys with
    | nil => simp
    | cons y ys ih =>
      have h1 := hy y List.mem_cons_self
      have h2 := ih fun z hz => hy z (List.mem_cons_of_mem _ hz)
      simp only [List.map_cons, List.sum_cons, List.length_cons, Nat.add_mul, Nat.one_mul]
      omega
  unfold mJoin
  simp only [listOf, Option.bind_some, strsOf_map]
  rw [if_pos (by omega)]
end Ev
end L2

namespace L2
namespace Ev
open PyProof.Rows PySem.Spec PySem L2
variable [Tb]
/-! ### what is written of spreads and grammars -/
def okP (p : P2) : Prop := okI p.1 ∧ okI p.2
def ctT (p : P2) : Str := tx p.1 ++ "," ++ tx p.2
def okF (f : Fan) : Prop := okP f.1 ∧ (∀ p ∈ f.2, okP p) ∧ f.2.length ≤ 20
def fanT (f : Fan) : Str := Txt.join " + " (ctT f.1 :: f.2.map ctT)
def okS (s : List Fan) : Prop := (∀ f ∈ s, okF f) ∧ s.length ≤ 20
def spreadT (s : List Fan) : Str := if s = [] then "none" else Txt.join " | " (s.map fanT)
def partT : Part → Str
  | .a => "a"
  | .b => "b"
  | .nm i => tx i
def okPt : Part → Prop
  | .nm i => okI i
  | _ => True
def okSd (s : Side) : Prop := (∀ p ∈ s, okPt p) ∧ s.length ≤ 20
def sideT (s : Side) : Str := if s = [] then "-" else Txt.join " " (s.map partT)
def okRw (s : Row) : Prop := (∀ p ∈ s, okSd p) ∧ s.length ≤ 20
def rowT (s : Row) : Str := if s = [] then "none" else Txt.join " | " (s.map sideT)
def okGr (s : Gram) : Prop := (∀ p ∈ s, okRw p) ∧ s.length ≤ 20
def gramT (s : Gram) : Str := Txt.join " ; " (s.map rowT)
noncomputable def p_count_text : List D → M D := pureP (fun p => [pairD p]) okP fun p => .str (ctT p)
noncomputable def p_fan_text : List D → M D := pureP (fun f => [fanD f]) okF fun f => .str (fanT f)
noncomputable def p_written : List D → M D := pureP (fun f => [spreadD f]) okS fun f => .str (spreadT f)
noncomputable def p_side_text : List D → M D := pureP (fun f => [sideD f]) okSd fun f => .str (sideT f)
noncomputable def p_row_text : List D → M D := pureP (fun f => [rowD f]) okRw fun f => .str (rowT f)
noncomputable def p_shown : List D → M D := pureP (fun f => [gramD f]) okGr fun f => .str (gramT f)
noncomputable def b_count_text : MS := (sRet (eBin (opAdd false) (eBin (opAdd false) (eFn fStr (aCons (eBin opSub2 (eV 0) (eC (.int 0))) aNil)) (eC (.str ","))) (eFn fStr (aCons (eBin opSub2 (eV 0) (eC (.int 1))) aNil))))
noncomputable def g_count_text : List D → M D := runDef 1 b_count_text
noncomputable def b_fan_text : MS := (sRet (eMeth "str" mJoin (eC (.str " + ")) (aCons (eBin (opAdd false) (eLst false (aCons (eCall 1 p_count_text (aCons (eBin opSub2 (eV 0) (eC (.int 0))) aNil)) aNil)) (eLc false [1] (iSeq (eBin opSub2 (eV 0) (eC (.int 1)))) (gN 1) tTrue (eCall 1 p_count_text (aCons (eV 1) aNil)))) aNil)))
noncomputable def g_fan_text : List D → M D := runDef 2 b_fan_text
noncomputable def b_written : MS := (sSeq (sIf (tOf (eBin (opEq false) (eV 0) (eTup aNil))) (sRet (eC (.str "none"))) sNx) (sRet (eMeth "str" mJoin (eC (.str " | ")) (aCons (eLc false [1] (iSeq (eV 0)) (gN 1) tTrue (eCall 1 p_fan_text (aCons (eV 1) aNil))) aNil))))
noncomputable def g_written : List D → M D := runDef 2 b_written
noncomputable def b_side_text : MS := (sSeq (sIf (tOf (eBin (opEq false) (eV 0) (eTup aNil))) (sRet (eC (.str "-"))) sNx) (sRet (eMeth "str" mJoin (eC (.str " ")) (aCons (eLc false [1] (iSeq (eV 0)) (gN 1) tTrue (eFn fStr (aCons (eV 1) aNil))) aNil))))
noncomputable def g_side_text : List D → M D := runDef 2 b_side_text
noncomputable def b_row_text : MS := (sSeq (sIf (tOf (eBin (opEq false) (eV 0) (eTup aNil))) (sRet (eC (.str "none"))) sNx) (sRet (eMeth "str" mJoin (eC (.str " | ")) (aCons (eLc false [1] (iSeq (eV 0)) (gN 1) tTrue (eCall 1 p_side_text (aCons (eV 1) aNil))) aNil))))
noncomputable def g_row_text : List D → M D := runDef 2 b_row_text
noncomputable def b_shown : MS := (sRet (eMeth "str" mJoin (eC (.str " ; ")) (aCons (eLc false [1] (iSeq (eV 0)) (gN 1) tTrue (eCall 1 p_row_text (aCons (eV 1) aNil))) aNil)))
noncomputable def g_shown : List D → M D := runDef 2 b_shown
theorem fanD_inj (a b : Fan) (h : fanD a = fanD b) : a = b := by
  obtain ⟨p, l⟩ := a; obtain ⟨q, m⟩ := b
  simp only [fanD, D.tup.injEq, List.cons.injEq, pairD_inj, and_true] at h
  rw [h.1, map_inj (fun x y e => pairD_inj.mp e) h.2]
theorem spreadD_inj (a b : List Fan) (h : spreadD a = spreadD b) : a = b := map_inj fanD_inj (D.tup.inj h)
theorem partD_inj (a b : Part) (h : partD a = partD b) : a = b := by
  cases a <;> cases b <;> simp [partD] at h <;> first | rfl | (rw [h]) | (exact absurd h (by decide))
theorem sideD_inj (a b : Side) (h : sideD a = sideD b) : a = b := map_inj partD_inj (D.tup.inj h)
theorem rowD_inj (a b : Row) (h : rowD a = rowD b) : a = b := map_inj sideD_inj (D.tup.inj h)
theorem gramD_inj (a b : Gram) (h : gramD a = gramD b) : a = b := map_inj rowD_inj (D.tup.inj h)
theorem join_len (a : Str) (n : Nat) : ∀ ys : List Str, (∀ y ∈ ys, y.length ≤ n) → (Txt.join a ys).length ≤ ys.length * (n + a.length) := by
  intro ys
  have e : Txt.join a ys = Str.join a ys := StrLaws.glued_eq_join a ys
  rw [e]
  induction ys with
  | nil => intro _; simp [Str.join, Str.empty, Str.length]
  | cons y ys ih =>
    intro h
    have h1 := h y List.mem_cons_self
    have h2 := ih (by
      exact StrLaws.glued_eq_join a ys) fun z hz => h z (List.mem_cons_of_mem _ hz)
    rw [List.length_cons, Nat.add_mul]
    cases ys with
    | nil => simp only [Str.join, List.length_nil]; omega
    | cons z r =>
      show (y ++ a ++ Str.join a (z :: r)).length ≤ _
      rw [Str.length_append, Str.length_append]; omega
theorem ctT_len {p : P2} (h : okP p) : (ctT p).length ≤ 2001 := by
  have e : (",": Str).length = 1 := by decide
  unfold ctT
  rw [Str.length_append, Str.length_append, e]
  have := h.1.2; have := h.2.2; omega
theorem fanT_len {f : Fan} (h : okF f) : (fanT f).length ≤ 43000 := by
  have e : (" + ": Str).length = 3 := by decide
  have := join_len " + " 2001 (ctT f.1 :: f.2.map ctT) (fun y hy => by
    rcases List.mem_cons.mp hy with rfl | hy
    · exact ctT_len h.1
    · obtain ⟨p, hp, rfl⟩ := List.mem_map.mp hy; exact ctT_len (h.2.1 p hp))
  rw [List.length_cons, List.length_map, e] at this
  have h3 := h.2.2
  have : (f.2.length + 1) * (2001 + 3) ≤ 21 * (2001 + 3) := Nat.mul_le_mul_right _ (by omega)
  unfold fanT; omega
theorem partT_len {p : Part} (h : okPt p) : (partT p).length ≤ 1000 := by
  cases p with
  | a => exact (by decide : ("a" : Str).length ≤ 1000)
  | b => exact (by decide : ("b" : Str).length ≤ 1000)
  | nm i => exact h.2
theorem sideT_len {s : Side} (h : okSd s) : (sideT s).length ≤ 20020 := by
  unfold sideT
  split
  · exact (by decide : ("-" : Str).length ≤ 20020)
  · have e : (" ": Str).length = 1 := by decide
    have := join_len " " 1000 (s.map partT) (fun y hy => by obtain ⟨p, hp, rfl⟩ := List.mem_map.mp hy; exact partT_len (h.1 p hp))
    rw [List.length_map, e] at this
    have h3 := h.2
    have : s.length * (1000 + 1) ≤ 20 * (1000 + 1) := Nat.mul_le_mul_right _ (by omega)
    omega
theorem rowT_len {s : Row} (h : okRw s) : (rowT s).length ≤ 400460 := by
  unfold rowT
  split
  · exact (by decide : ("none" : Str).length ≤ 400460)
  · have e : (" | ": Str).length = 3 := by decide
    have := join_len " | " 20020 (s.map sideT) (fun y hy => by obtain ⟨p, hp, rfl⟩ := List.mem_map.mp hy; exact sideT_len (h.1 p hp))
    rw [List.length_map, e] at this
    have h3 := h.2
    have : s.length * (20020 + 3) ≤ 20 * (20020 + 3) := Nat.mul_le_mul_right _ (by omega)
    omega
theorem count_text_r {p : P2} (h : okP p) (S : Store) : p_count_text [pairD p] S = some (.str (ctT p), S) := pureP_r (enc := fun p => [pairD p]) (fun a b e => by simpa using e) h S
theorem fan_text_r {p : Fan} (h : okF p) (S : Store) : p_fan_text [fanD p] S = some (.str (fanT p), S) := pureP_r (enc := fun p => [fanD p]) (fun a b e => fanD_inj a b (List.cons.inj e).1) h S
theorem written_r {p : List Fan} (h : okS p) (S : Store) : p_written [spreadD p] S = some (.str (spreadT p), S) := pureP_r (enc := fun p => [spreadD p]) (fun a b e => spreadD_inj a b (List.cons.inj e).1) h S
theorem side_text_r {p : Side} (h : okSd p) (S : Store) : p_side_text [sideD p] S = some (.str (sideT p), S) := pureP_r (enc := fun p => [sideD p]) (fun a b e => sideD_inj a b (List.cons.inj e).1) h S
theorem row_text_r {p : Row} (h : okRw p) (S : Store) : p_row_text [rowD p] S = some (.str (rowT p), S) := pureP_r (enc := fun p => [rowD p]) (fun a b e => rowD_inj a b (List.cons.inj e).1) h S
theorem shown_r {p : Gram} (h : okGr p) (S : Store) : p_shown [gramD p] S = some (.str (gramT p), S) := pureP_r (enc := fun p => [gramD p]) (fun a b e => gramD_inj a b (List.cons.inj e).1) h S
theorem at0 {α : Type} (a : α) (l : List α) : atI (a :: l) 0 = some a := atI_pos (by decide) rfl
theorem at1 {α : Type} (a b : α) (l : List α) : atI (a :: b :: l) 1 = some b := atI_pos (by decide) rfl
theorem addT {a b : Str} (h : a.length + b.length ≤ 1000000) (S : Store) : opAdd false (.str a) (.str b) S = some (.str (a ++ b), S) := opAdd_str (size_le h)
/-- the two sums of a count's text -/
theorem ct_sum {p : P2} (h : okP p) (S : Store) : (opAdd false (.str (tx p.1)) (.str ",") S = some (.str (tx p.1 ++ ","), S)) ∧ opAdd false (.str (tx p.1 ++ ",")) (.str (tx p.2)) S = some (.str (ctT p), S) := by
  have e : (",": Str).length = 1 := by decide
  have h1 := h.1.2; have h2 := h.2.2
  exact ⟨addT (by rw [e]; omega) S, addT (by rw [Str.length_append, e]; omega) S⟩
theorem r_count_text : Refines g_count_text p_count_text := refines_pure (fun p h S => ⟨[], by
  obtain ⟨e1, e2⟩ := ct_sum h S
  simp [g_count_text, runDef, b_count_text, pairD, at0, at1, fStr_int h.1, fStr_int h.2, e1, e2]⟩) fun _ _ _ => rfl
theorem r_fan_text : Refines g_fan_text p_fan_text := refines_pure (fun f h S => ⟨[], by
  have e : (" + ": Str).length = 3 := by decide
  have hc : compL gYes [1] (gN 1) tTrue (eCall 1 p_count_text (aCons (eV 1) aNil)) (f.2.map pairD) [some (fanD f), none] S [] = some ((f.2.map ctT).map .str, S) := by
    rw [compL_map rfl (fun d => match d with | .tup [.int a, .int b] => .str (ctT (a, b)) | _ => .non)]
    · rw [List.map_map, List.map_map]; rfl
    · intro d hd
      obtain ⟨p, hp, rfl⟩ := List.mem_map.mp hd
      refine ⟨_, rfl, ?_⟩
      simp [wipeD, count_text_r (h.2.1 p hp)]
      rfl
    · rw [List.length_map]; exact size_le (by have := h.2.2; omega)
  have hl : ((f.2.map ctT).map D.str).length ≤ sizeLine := by rw [List.length_map, List.length_map]; exact size_le (by have := h.2.2; omega)
  have hl2 : ([D.str (ctT f.1)] ++ (f.2.map ctT).map D.str).length ≤ sizeLine := by rw [List.length_append, List.length_map, List.length_map]; exact size_le (by have := h.2.2; simp; omega)
  have hj : mJoin (.str " + ") [.lst (.str (ctT f.1) :: (f.2.map ctT).map .str)] S = some (.str (fanT f), S) := by
    have := mJoin_r (a := " + ") (ys := ctT f.1 :: f.2.map ctT) (n := 2001) S (fun y hy => by
      rcases List.mem_cons.mp hy with rfl | hy
      · exact ctT_len h.1
      · obtain ⟨p, hp, rfl⟩ := List.mem_map.mp hy; exact ctT_len (h.2.1 p hp)) (by rw [e, List.length_cons, List.length_map]; have := h.2.2; omega)
    exact this
  have h0 : atI [pairD f.1, .tup (f.2.map pairD)] 0 = some (pairD f.1) := at0 _ _
  have h1 : atI [pairD f.1, .tup (f.2.map pairD)] 1 = some (.tup (f.2.map pairD)) := at1 _ _ _
  have hc' : compL gYes [1] (gN 1) tTrue (eCall 1 p_count_text (aCons (eV 1) aNil)) (f.2.map pairD) [some (.tup [pairD f.1, .tup (f.2.map pairD)]), none] S [] = some ((f.2.map ctT).map .str, S) := hc
  have hn : newL false ((f.2.map ctT).map D.str) S = some (.lst ((f.2.map ctT).map .str), S) := newL_f hl
  have ha : opAdd false (.lst [.str (ctT f.1)]) (.lst ((f.2.map ctT).map .str)) S = some (.lst (.str (ctT f.1) :: (f.2.map ctT).map .str), S) := by rw [opAdd_lst, newL_f hl2]; rfl
  rw [List.append_nil]
  show g_fan_text [.tup [pairD f.1, .tup (f.2.map pairD)]] S = _
  simp only [g_fan_text, runDef, b_fan_text]
  simp [h0, h1, count_text_r h.1, -List.map_map, hc', hn, ha, hj, typD]⟩) fun _ _ _ => rfl
theorem r_written : Refines g_written p_written := refines_pure (fun f h S => ⟨[], by
  have hc : compL gYes [1] (gN 1) tTrue (eCall 1 p_fan_text (aCons (eV 1) aNil)) (f.map fanD) [some (.tup (f.map fanD)), none] S [] = some ((f.map fanT).map .str, S) := by
    have e := compL_map (gd := gYes) (vs := [1]) (tg := gN 1) (f := (eCall 1 p_fan_text (aCons (eV 1) aNil))) (ρ := [some (.tup (f.map fanD)), none]) (S := S) rfl (fun d => open Classical in if x : ∃ a, a ∈ f ∧ d = fanD a then .str (fanT x.choose) else .non) (f.map fanD) (fun d hd => by
      have x : ∃ a, a ∈ f ∧ d = fanD a := by obtain ⟨a, ha, rfl⟩ := List.mem_map.mp hd; exact ⟨a, ha, rfl⟩
      refine ⟨_, rfl, ?_⟩
      rw [dif_pos x]
      have hx := x.choose_spec
      have e1 : d = fanD x.choose := hx.2
      simp only [wipeD]
      generalize x.choose = a at *
      subst e1
      simp [fan_text_r (h.1 a hx.1)]) (by rw [List.length_map]; exact size_le (by have := h.2; omega))
    rw [e, List.map_map, List.map_map]
    congr 2
    refine List.map_congr_left fun a ha => ?_
    have x : ∃ b, b ∈ f ∧ fanD a = fanD b := ⟨a, ha, rfl⟩
    show (if x : ∃ b, b ∈ f ∧ fanD a = fanD b then D.str (fanT x.choose) else .non) = D.str (fanT a)
    rw [dif_pos x, ← fanD_inj _ _ x.choose_spec.2]
  have hl : ((f.map fanT).map D.str).length ≤ sizeLine := by rw [List.length_map, List.length_map]; exact size_le (by have := h.2; omega)
  have hn : newL false ((f.map fanT).map D.str) S = some (.lst ((f.map fanT).map .str), S) := newL_f hl
  have hj : mJoin (.str " | ") [.lst ((f.map fanT).map .str)] S = some (.str (Txt.join " | " (f.map fanT)), S) := by
    have e : (" | " : Str).length ≤ 3 := by decide
    exact mJoin_r (n := 43000) S (fun y hy => by obtain ⟨p, hp, rfl⟩ := List.mem_map.mp hy; exact fanT_len (h.1 p hp)) (by
      rw [List.length_map]
      have := h.2
      have h1 : f.length * 43000 ≤ 20 * 43000 := Nat.mul_le_mul_right 43000 (show f.length ≤ 20 by omega)
      have h2 : f.length * (" | " : Str).length ≤ 20 * 3 := Nat.mul_le_mul (by omega) e
      exact Nat.le_trans (Nat.add_le_add h1 h2) (by decide))
  have q : opEq false (.tup (f.map fanD)) (.tup []) S = some (.bl (decide (f = [])), S) := by
    rw [opEq_noB (by rw [D.noB]; exact noBs_map _ fun p _ => noB_fan p) rfl (by simp [D.dep, D.deps])]
    simp
  rw [List.append_nil]
  show g_written [.tup (f.map fanD)] S = _
  simp only [g_written, runDef, b_written]
  by_cases h0 : f = []
  · subst h0
    simp at q
    simp [q, spreadT]
  · simp [q, h0, hc, hn, hj, typD, -List.map_map, spreadT]⟩) fun _ _ _ => rfl
theorem fStr_part {p : Part} (h : okPt p) (S : Store) : fStr [partD p] S = some (.str (partT p), S) := by
  cases p with
  | a => rfl
  | b => rfl
  | nm i => exact fStr_int h S
theorem r_side_text : Refines g_side_text p_side_text := refines_pure (fun f h S => ⟨[], by
  have hc : compL gYes [1] (gN 1) tTrue (eFn fStr (aCons (eV 1) aNil)) (f.map partD) [some (.tup (f.map partD)), none] S [] = some ((f.map partT).map .str, S) := by
    have e := compL_map (gd := gYes) (vs := [1]) (tg := gN 1) (f := (eFn fStr (aCons (eV 1) aNil))) (ρ := [some (.tup (f.map partD)), none]) (S := S) rfl (fun d => open Classical in if x : ∃ a, a ∈ f ∧ d = partD a then .str (partT x.choose) else .non) (f.map partD) (fun d hd => by
      have x : ∃ a, a ∈ f ∧ d = partD a := by obtain ⟨a, ha, rfl⟩ := List.mem_map.mp hd; exact ⟨a, ha, rfl⟩
      refine ⟨_, rfl, ?_⟩
      rw [dif_pos x]
      have hx := x.choose_spec
      have e1 : d = partD x.choose := hx.2
      simp only [wipeD]
      generalize x.choose = a at *
      subst e1
      simp [fStr_part (h.1 a hx.1)]) (by rw [List.length_map]; exact size_le (by have := h.2; omega))
    rw [e, List.map_map, List.map_map]
    congr 2
    refine List.map_congr_left fun a ha => ?_
    have x : ∃ b, b ∈ f ∧ partD a = partD b := ⟨a, ha, rfl⟩
    show (if x : ∃ b, b ∈ f ∧ partD a = partD b then D.str (partT x.choose) else .non) = D.str (partT a)
    rw [dif_pos x, ← partD_inj _ _ x.choose_spec.2]
  have hl : ((f.map partT).map D.str).length ≤ sizeLine := by rw [List.length_map, List.length_map]; exact size_le (by have := h.2; omega)
  have hn : newL false ((f.map partT).map D.str) S = some (.lst ((f.map partT).map .str), S) := newL_f hl
  have hj : mJoin (.str " ") [.lst ((f.map partT).map .str)] S = some (.str (Txt.join " " (f.map partT)), S) := by
    have e : (" " : Str).length ≤ 3 := by decide
    exact mJoin_r (n := 1000) S (fun y hy => by obtain ⟨p, hp, rfl⟩ := List.mem_map.mp hy; exact partT_len (h.1 p hp)) (by
      rw [List.length_map]
      have := h.2
      have h1 : f.length * 1000 ≤ 20 * 1000 := Nat.mul_le_mul_right 1000 (show f.length ≤ 20 by omega)
      have h2 : f.length * (" " : Str).length ≤ 20 * 3 := Nat.mul_le_mul (by omega) e
      exact Nat.le_trans (Nat.add_le_add h1 h2) (by decide))
  have q : opEq false (.tup (f.map partD)) (.tup []) S = some (.bl (decide (f = [])), S) := by
    rw [opEq_noB (by rw [D.noB]; exact noBs_map _ fun p _ => noB_part p) rfl (by simp [D.dep, D.deps])]
    simp
  rw [List.append_nil]
  show g_side_text [.tup (f.map partD)] S = _
  simp only [g_side_text, runDef, b_side_text]
  by_cases h0 : f = []
  · subst h0
    simp at q
    simp [q, sideT]
  · simp [q, h0, hc, hn, hj, typD, -List.map_map, sideT]⟩) fun _ _ _ => rfl
theorem r_row_text : Refines g_row_text p_row_text := refines_pure (fun f h S => ⟨[], by
  have hc : compL gYes [1] (gN 1) tTrue (eCall 1 p_side_text (aCons (eV 1) aNil)) (f.map sideD) [some (.tup (f.map sideD)), none] S [] = some ((f.map sideT).map .str, S) := by
    have e := compL_map (gd := gYes) (vs := [1]) (tg := gN 1) (f := (eCall 1 p_side_text (aCons (eV 1) aNil))) (ρ := [some (.tup (f.map sideD)), none]) (S := S) rfl (fun d => open Classical in if x : ∃ a, a ∈ f ∧ d = sideD a then .str (sideT x.choose) else .non) (f.map sideD) (fun d hd => by
      have x : ∃ a, a ∈ f ∧ d = sideD a := by obtain ⟨a, ha, rfl⟩ := List.mem_map.mp hd; exact ⟨a, ha, rfl⟩
      refine ⟨_, rfl, ?_⟩
      rw [dif_pos x]
      have hx := x.choose_spec
      have e1 : d = sideD x.choose := hx.2
      simp only [wipeD]
      generalize x.choose = a at *
      subst e1
      simp [side_text_r (h.1 a hx.1)]) (by rw [List.length_map]; exact size_le (by have := h.2; omega))
    rw [e, List.map_map, List.map_map]
    congr 2
    refine List.map_congr_left fun a ha => ?_
    have x : ∃ b, b ∈ f ∧ sideD a = sideD b := ⟨a, ha, rfl⟩
    show (if x : ∃ b, b ∈ f ∧ sideD a = sideD b then D.str (sideT x.choose) else .non) = D.str (sideT a)
    rw [dif_pos x, ← sideD_inj _ _ x.choose_spec.2]
  have hl : ((f.map sideT).map D.str).length ≤ sizeLine := by rw [List.length_map, List.length_map]; exact size_le (by have := h.2; omega)
  have hn : newL false ((f.map sideT).map D.str) S = some (.lst ((f.map sideT).map .str), S) := newL_f hl
  have hj : mJoin (.str " | ") [.lst ((f.map sideT).map .str)] S = some (.str (Txt.join " | " (f.map sideT)), S) := by
    have e : (" | " : Str).length ≤ 3 := by decide
    exact mJoin_r (n := 20020) S (fun y hy => by obtain ⟨p, hp, rfl⟩ := List.mem_map.mp hy; exact sideT_len (h.1 p hp)) (by
      rw [List.length_map]
      have := h.2
      have h1 : f.length * 20020 ≤ 20 * 20020 := Nat.mul_le_mul_right 20020 (show f.length ≤ 20 by omega)
      have h2 : f.length * (" | " : Str).length ≤ 20 * 3 := Nat.mul_le_mul (by omega) e
      exact Nat.le_trans (Nat.add_le_add h1 h2) (by decide))
  have q : opEq false (.tup (f.map sideD)) (.tup []) S = some (.bl (decide (f = [])), S) := by
    rw [opEq_noB (by rw [D.noB]; exact noBs_map _ fun p _ => noB_side p) rfl (by simp [D.dep, D.deps])]
    simp
  rw [List.append_nil]
  show g_row_text [.tup (f.map sideD)] S = _
  simp only [g_row_text, runDef, b_row_text]
  by_cases h0 : f = []
  · subst h0
    simp at q
    simp [q, rowT]
  · simp [q, h0, hc, hn, hj, typD, -List.map_map, rowT]⟩) fun _ _ _ => rfl
theorem r_shown : Refines g_shown p_shown := refines_pure (fun f h S => ⟨[], by
  have hc : compL gYes [1] (gN 1) tTrue (eCall 1 p_row_text (aCons (eV 1) aNil)) (f.map rowD) [some (.tup (f.map rowD)), none] S [] = some ((f.map rowT).map .str, S) := by
    have e := compL_map (gd := gYes) (vs := [1]) (tg := gN 1) (f := (eCall 1 p_row_text (aCons (eV 1) aNil))) (ρ := [some (.tup (f.map rowD)), none]) (S := S) rfl (fun d => open Classical in if x : ∃ a, a ∈ f ∧ d = rowD a then .str (rowT x.choose) else .non) (f.map rowD) (fun d hd => by
      have x : ∃ a, a ∈ f ∧ d = rowD a := by obtain ⟨a, ha, rfl⟩ := List.mem_map.mp hd; exact ⟨a, ha, rfl⟩
      refine ⟨_, rfl, ?_⟩
      rw [dif_pos x]
      have hx := x.choose_spec
      have e1 : d = rowD x.choose := hx.2
      simp only [wipeD]
      generalize x.choose = a at *
      subst e1
      simp [row_text_r (h.1 a hx.1)]) (by rw [List.length_map]; exact size_le (by have := h.2; omega))
    rw [e, List.map_map, List.map_map]
    congr 2
    refine List.map_congr_left fun a ha => ?_
    have x : ∃ b, b ∈ f ∧ rowD a = rowD b := ⟨a, ha, rfl⟩
    show (if x : ∃ b, b ∈ f ∧ rowD a = rowD b then D.str (rowT x.choose) else .non) = D.str (rowT a)
    rw [dif_pos x, ← rowD_inj _ _ x.choose_spec.2]
  have hl : ((f.map rowT).map D.str).length ≤ sizeLine := by rw [List.length_map, List.length_map]; exact size_le (by have := h.2; omega)
  have hn : newL false ((f.map rowT).map D.str) S = some (.lst ((f.map rowT).map .str), S) := newL_f hl
  have hj : mJoin (.str " ; ") [.lst ((f.map rowT).map .str)] S = some (.str (Txt.join " ; " (f.map rowT)), S) := by
    have e : (" ; " : Str).length ≤ 3 := by decide
    exact mJoin_r (n := 400460) S (fun y hy => by obtain ⟨p, hp, rfl⟩ := List.mem_map.mp hy; exact rowT_len (h.1 p hp)) (by
      rw [List.length_map]
      have := h.2
      have h1 : f.length * 400460 ≤ 20 * 400460 := Nat.mul_le_mul_right 400460 (show f.length ≤ 20 by omega)
      have h2 : f.length * (" ; " : Str).length ≤ 20 * 3 := Nat.mul_le_mul (by omega) e
      exact Nat.le_trans (Nat.add_le_add h1 h2) (by decide))
  rw [List.append_nil]
  show g_shown [.tup (f.map rowD)] S = _
  simp only [g_shown, runDef, b_shown]
  simp [hc, hn, hj, typD, -List.map_map]
  rfl⟩) fun _ _ _ => rfl
end Ev
end L2


namespace L2
namespace Ev
open PyProof.Rows PySem.Spec PySem L2
variable [Tb]
/-! ### what is drawn is fit -/
theorem okI_tab : ∀ k : Fin 64, (tx (k.val : Int)).length ≤ 1000 := by decide +kernel
theorem okI_small {i : Int} (h0 : 0 ≤ i) (h1 : i < 64) : okI i := by
  have e : ((⟨i.toNat, by omega⟩ : Fin 64).val : Int) = i := by show ((i.toNat : Nat) : Int) = i; omega
  refine ⟨?_, by rw [← e]; exact okI_tab _⟩
  have : i.natAbs < 2 ^ 6 := by omega
  exact Nat.lt_of_lt_of_le this (Nat.pow_le_pow_right (by decide) (by decide))
theorem stepV_b (n : Int) (k : Nat) : (0 ≤ (stepV n k).1 ∧ (stepV n k).1 ≤ 4) ∧ 0 ≤ (stepV n k).2 ∧ (stepV n k).2 ≤ 4 := by
  unfold stepV
  dsimp only
  split <;> dsimp only <;> omega
theorem fold_mem {n : Int} {p : P2} : ∀ (l : List Nat) (ks : List P2), p ∈ l.foldl (fun ks k => insP ks (stepV n k)) ks → p ∈ ks ∨ ∃ k, p = stepV n k
  | [], ks, h => .inl h
  | a :: l, ks, h => by
    rcases fold_mem l _ h with h | h
    · rcases mem_insP.mp h with h | h
      · exact .inl h
      · exact .inr ⟨a, h⟩
    · exact .inr h
theorem stepsV_mem {n : Int} {p : P2} (h : p ∈ stepsV n) : ∃ k, p = stepV n k := by
  rcases fold_mem _ _ h with h | h
  · cases h
  · exact h
theorem fold_nodup {n : Int} : ∀ (l : List Nat) (ks : List P2), ks.Nodup → (l.foldl (fun ks k => insP ks (stepV n k)) ks).Nodup
  | [], ks, h => h
  | a :: l, ks, h => fold_nodup l _ (insP_nodup h)
theorem stepsV_nodup (n : Int) : (stepsV n).Nodup := fold_nodup _ _ List.nodup_nil
theorem fanV_step {n m : Int} {p : P2} (h : p ∈ (fanV n m).2) : (0 ≤ p.1 ∧ p.1 ≤ 4) ∧ (0 ≤ p.2 ∧ p.2 ≤ 4) ∧ p ≠ (0, 0) := by
  obtain ⟨h1, h2⟩ := List.mem_filter.mp h
  obtain ⟨k, rfl⟩ := stepsV_mem (List.mem_mergeSort.mp h1)
  exact ⟨(stepV_b n k).1, (stepV_b n k).2, by simpa using h2⟩
theorem fanV_len (n m : Int) : (fanV n m).2.length ≤ 4 := by
  have h1 := stepsV_len n
  have h2 : (fanV n m).2.length ≤ (sortP (stepsV n)).length := List.length_filter_le _ _
  unfold sortP at h2; rw [List.length_mergeSort] at h2
  omega
theorem fanV_base {n m : Int} (hm : 0 ≤ m) : (0 ≤ (fanV n m).1.1 ∧ (fanV n m).1.1 ≤ m) ∧ 0 ≤ (fanV n m).1.2 ∧ (fanV n m).1.2 ≤ m := by
  unfold fanV
  have h1 := Int.emod_nonneg n (b := m + 1) (by omega)
  have h2 := Int.emod_lt_of_pos n (b := m + 1) (by omega)
  have h3 := Int.emod_nonneg (n / 16) (b := m + 1) (by omega)
  have h4 := Int.emod_lt_of_pos (n / 16) (b := m + 1) (by omega)
  dsimp only; omega
theorem okF_fanV {n m : Int} (hm : 0 ≤ m) (h2 : m < 64) : okF (fanV n m) := by
  have b := fanV_base (n := n) hm
  refine ⟨⟨okI_small b.1.1 (by omega), okI_small b.2.1 (by omega)⟩, fun p hp => ?_, by have := fanV_len n m; omega⟩
  have q := fanV_step hp
  exact ⟨okI_small q.1.1 (by omega), okI_small q.2.1.1 (by omega)⟩
theorem okS_spreadV {n m : Int} (hm : 0 ≤ m) (h2 : m < 64) : okS (spreadV n m) := by
  refine ⟨fun f hf => ?_, by have := spreadV_len n m; omega⟩
  obtain ⟨k, _, rfl⟩ := List.mem_map.mp hf
  exact okF_fanV hm h2
theorem partV_b {n many : Int} {plain : Bool} {f : Side} {k : Nat} (hm : 0 < many) : ∀ i, partV n many plain f k = .nm i → 0 ≤ i ∧ i < many := by
  intro i h
  unfold partV at h
  dsimp only at h
  split at h
  · cases h; exact ⟨Int.emod_nonneg _ (by omega), Int.emod_lt_of_pos _ hm⟩
  · split at h <;> cases h
theorem sideV_fold_b {n many : Int} {plain : Bool} (hm : 0 < many) : ∀ (l : List Nat) (f : Side), (∀ p ∈ f, ∀ i, p = .nm i → 0 ≤ i ∧ i < many) → ∀ p ∈ l.foldl (fun f k => f ++ [partV n many plain f k]) f, ∀ i, p = .nm i → 0 ≤ i ∧ i < many
  | [], f, h => h
  | a :: l, f, h => sideV_fold_b hm l _ fun p hp i e => by
    rcases List.mem_append.mp hp with hp | hp
    · exact h p hp i e
    · rw [List.mem_singleton.mp hp] at e; exact partV_b hm i e
theorem sideV_b {n many : Int} {plain : Bool} (hm : 0 < many) : ∀ p ∈ sideV n many plain, ∀ i, p = .nm i → 0 ≤ i ∧ i < many := sideV_fold_b hm _ _ (by simp)
theorem okSd_sideV {n many : Int} {plain : Bool} (hm : 0 < many) (h2 : many < 64) : okSd (sideV n many plain) := by
  refine ⟨fun p hp => ?_, by have := sideV_len n many plain; omega⟩
  have q := sideV_b hm p hp
  cases p with
  | a => trivial
  | b => trivial
  | nm i => have := q i rfl; exact okI_small this.1 (by omega)
theorem rowV0_mem {n many : Int} {name : Nat} {s : Side} (h : s ∈ rowV0 n many name) : ∃ x pl, s = sideV x many pl := by
  unfold rowV0 at h
  rcases List.mem_cons.mp h with rfl | h
  · exact ⟨_, _, rfl⟩
  · obtain ⟨k, _, rfl⟩ := List.mem_map.mp h; exact ⟨_, _, rfl⟩
theorem rowV_mem {n many : Int} {name : Nat} {s : Side} (h : s ∈ rowV n many name) : ∃ x pl, s = sideV x many pl := by
  unfold rowV at h
  rcases List.mem_append.mp h with h | h
  · exact rowV0_mem (List.mem_of_mem_drop h)
  · exact rowV0_mem (List.mem_of_mem_take h)
theorem rowV_len (n many : Int) (name : Nat) : 1 ≤ (rowV n many name).length ∧ (rowV n many name).length ≤ 3 := by
  have := rowV0_len n many name
  have h1 := Int.emod_nonneg (drawnV n (30 + (name : Nat)) / 512) (b := ((rowV0 n many name).length : Nat)) (by omega)
  have h2 := Int.emod_lt_of_pos (drawnV n (30 + (name : Nat)) / 512) (b := ((rowV0 n many name).length : Nat)) (by omega)
  unfold rowV
  dsimp only
  rw [List.length_append, List.length_drop, List.length_take]
  omega
theorem gramV_mem {n : Int} {r : Row} (h : r ∈ gramV n) : r = [] ∨ ∃ name, r = rowV n (manyV n : Nat) name := by
  unfold gramV at h
  dsimp only at h
  split at h
  · rcases List.mem_or_eq_of_mem_set h with h | h
    · obtain ⟨k, _, rfl⟩ := List.mem_map.mp h; exact .inr ⟨k, rfl⟩
    · exact .inl h
  · obtain ⟨k, _, rfl⟩ := List.mem_map.mp h; exact .inr ⟨k, rfl⟩
theorem gramV_len (n : Int) : (gramV n).length = manyV n := by
  unfold gramV
  dsimp only
  split <;> simp
theorem okGr_gramV (n : Int) : okGr (gramV n) := by
  have hm := manyV_b n
  refine ⟨fun r hr => ?_, by rw [gramV_len]; omega⟩
  rcases gramV_mem hr with rfl | ⟨name, rfl⟩
  · exact ⟨by simp, by simp⟩
  · refine ⟨fun s hs => ?_, by have := rowV_len n (manyV n : Nat) name; omega⟩
    obtain ⟨x, pl, rfl⟩ := rowV_mem hs
    exact okSd_sideV (by omega) (by omega)
end Ev
end L2

namespace L2
namespace Ev
open PyProof.Rows PySem.Spec PySem L2
variable [Tb]
/-! ### methods of dicts -/
section
variable {X : Cx} {e a b c o : Expr} {es : List Expr} {pos apos cpos : Pos} {fa fb fc fo : ME} {fs : MA} {x name : Str} {p : Pos}
def eDm (g : D → List D → M D) (fo : ME) (fs : MA) : ME := fun ρ S => (fo ρ S).bind fun (x, S1) => if (dctOf S1 x).isSome = true then (fs ρ S1).bind fun (ds, S2) => g x ds S2 else none
@[simp] theorem eDm_r {h : D → List D → M D} {ρ : EnvD} {S : Store} : eDm h fo fs ρ S = (fo ρ S).bind fun p => if (dctOf p.2 p.1).isSome = true then (fs ρ p.2).bind fun q => h p.1 q.1 q.2 else none := (rfl)
theorem e_dm {id : String} {g : D → List D → M D} (pa : PlainAttrs "dict") (slot : Slot "dict" name id) (hty : typeOf (.builtin id) = pure (.type "method_descriptor")) (hm : Mt X id g) (ho : EvE X o fo) (ha : EvA X (e :: es) fs)
    (hbase : attributeBase o name X.env (eval o X.env) = eval o X.env := by rfl)
    (hfew : ((backTo cpos (starEach (e :: es) X.env)).all (fun x => !x.1) && (backToKw cpos (keywordEach [] X.env)).all (fun x => x.1.isSome)
      && decide ((e :: es).length + ([] : List Keyword).length + (if ([] : List Keyword).isEmpty then 0 else 1) < 30)) = true := by rfl)
    (hline : (apos.endLine == cpos.line) = true := by rfl) (hs : starEach (e :: es) X.env = (false, eval e X.env) :: starEach es X.env := by rfl) (hplain : (backTo cpos (starEach es X.env)).any (·.1) = false := by rfl) :
    EvE X (.Call (.Attribute o name apos) (e :: es) [] cpos) (eDm g fo fs) := by
  refine ⟨fun pins s σ H Q I h => ?_⟩
  obtain ⟨W, ρ, d, S', rfl, ok, hρ, he, q⟩ := h
  unfold eDm at he
  rw [Option.bind_eq_some_iff] at he
  obtain ⟨⟨x, S1⟩, e1, he⟩ := he
  dsimp only at he
  split at he
  · rename_i hx
    rw [Option.bind_eq_some_iff] at he
    obtain ⟨⟨ds, S2⟩, e2, he⟩ := he
    refine wpAny_Call_method_late hbase hfew hline rfl (thn (ho.run pins s σ W.H (fun y H1 => ∃ W1, W1.H = H1 ∧ Stp (md X) W S1 W1 ∧ Rp X.K W1 x y) I ⟨W, ρ, x, S1, rfl, ok, hρ, e1, fun W1 v st r => ⟨W1, rfl, st, r⟩⟩) fun v s1 ⟨y, H1, I1, r1, W1, eW, st, r⟩ => ?_)
    subst eW
    obtain ⟨kvs, hk⟩ := Option.isSome_iff_exists.mp hx
    obtain ⟨ad, rfl, _, _, hd⟩ := dct_open I1 st.ok (by rw [st.st]; exact hk) r
    obtain rfl : v = .ref ad := r1
    refine ⟨"dict", id, pa, slot, hty, hd.typ.1, hd.typ.2, ?_⟩
    have hA := ha.run cpos pins s1 σ W1.H (fun zs H2 => ∃ W2, W2.H = H2 ∧ Stp (md X) W1 S2 W2 ∧ Rps X.K W2 ds zs) I1 ⟨W1, ρ, ds, S2, rfl, st.ok, st.ext.rσ hρ, by rw [st.st]; exact e2, fun W2 vs st2 r2 => ⟨W2, rfl, st2, r2⟩⟩
    rw [hs] at hA ⊢
    refine Calls.callWith_builtin (by show (false || (backTo cpos (starEach es X.env)).any (·.1)) = false; rw [hplain] <;> rfl) (Calls.evalArgs_plain ?_)
    refine thn hA fun us s2 ⟨zs, H2, I2, r2, W2, eW2, st2, r3⟩ => ?_
    subst eW2
    exact hm pins s2 σ W2.H (.ref ad) zs (.ref ad) us Q I2 rfl r2 ⟨W2, x, ds, d, S', rfl, st2.ok, st2.ext _ _ r, r3, by rw [st2.st]; exact he, q.step (st.trans st2)⟩
  · cases he
theorem e_dm0 {id : String} {g : D → List D → M D} (pa : PlainAttrs "dict") (slot : Slot "dict" name id) (hty : typeOf (.builtin id) = pure (.type "method_descriptor")) (hm : Mt X id g) (ho : EvE X o fo)
    (hbase : attributeBase o name X.env (eval o X.env) = eval o X.env := by rfl) (hline : (apos.endLine == cpos.line) = true := by rfl) : EvE X (.Call (.Attribute o name apos) [] [] cpos) (eDm g fo aNil) := by
  refine ⟨fun pins s σ H Q I h => ?_⟩
  obtain ⟨W, ρ, d, S', rfl, ok, hρ, he, q⟩ := h
  unfold eDm at he
  rw [Option.bind_eq_some_iff] at he
  obtain ⟨⟨x, S1⟩, e1, he⟩ := he
  dsimp only at he
  split at he
  · rename_i hx
    rw [Option.bind_eq_some_iff] at he
    obtain ⟨⟨ds, S2⟩, e2, he⟩ := he
    cases e2
    refine wpAny_Call_method0_late hbase hline (thn (ho.run pins s σ W.H (fun y H1 => ∃ W1, W1.H = H1 ∧ Stp (md X) W S1 W1 ∧ Rp X.K W1 x y) I ⟨W, ρ, x, S1, rfl, ok, hρ, e1, fun W1 v st r => ⟨W1, rfl, st, r⟩⟩) fun v s1 ⟨y, H1, I1, r1, W1, eW, st, r⟩ => ?_)
    subst eW
    obtain ⟨kvs, hk⟩ := Option.isSome_iff_exists.mp hx
    obtain ⟨ad, rfl, _, _, hd⟩ := dct_open I1 st.ok (by rw [st.st]; exact hk) r
    obtain rfl : v = .ref ad := r1
    exact ⟨"dict", id, pa, slot, hty, hd.typ.1, hd.typ.2, Calls.callWith_builtin rfl (PySem.evalArgs_none (hm pins s1 σ W1.H (.ref ad) [] (.ref ad) [] Q I1 rfl .nil ⟨W1, x, [], d, S', rfl, st.ok, r, rfl, by rw [st.st]; exact he, q.step st⟩))⟩
  · cases he
/-- d.get(k, x) -/
def dmGet : D → List D → M D := fun x ds S => match ds with
  | [k, z] => (dctOf S x).bind fun kvs => if fitK kvs k = true then some ((dGet kvs k).getD z, S) else none
  | _ => none
theorem m_dget (hu : X.A.units + 190 < cLine) : Mt X "dict.get" dmGet := fun pins s σ H y ys v us Q I ry rys h => by
  obtain ⟨W, dx, ds, d, S', rfl, ok, rx, rs, he, q⟩ := h
  unfold dmGet at he
  split at he
  · rename_i k z
    rw [Option.bind_eq_some_iff] at he
    obtain ⟨kvs, hk, he⟩ := he
    split at he
    · rename_i hf
      cases he
      obtain ⟨y1, y2, rfl, r1, r2⟩ := rps_two rs
      obtain ⟨u1, u2, rfl, q1, q2⟩ := rys.two
      obtain ⟨ad, rfl, hs, _, hd⟩ := dct_open I ok hk rx
      obtain rfl : v = .ref ad := ry
      exact hd_get2 (by omega) I hs hd hf r1 q1 r2 q2 fun w' v' s' I' g1 g2 => ⟨v', W.H, I', g2, q.val ok g1⟩
    · cases he
  · cases he
/-! d.update(d2) -/
def dMerge (kvs more : List (D × D)) : List (D × D) := more.foldl (fun acc p => dPut acc p.1 p.2) kvs
def hP (a b : Int) : Int := reduceHash (Builtin.Tuple.tupleHashOf [hashInt a, hashInt b])
def pairK : D → Bool
  | .tup [.int _, .int _] => true
  | _ => false
def hD : D → Int
  | .tup [.int a, .int b] => hP a b
  | _ => 0
def updOk (kvs more : List (D × D)) : Prop := kvs.length + more.length ≤ sizeLine ∧ match kvs with
  | [] => (∀ p ∈ more, flatK p.1 = true) ∨ ((∀ p ∈ more, pairK p.1 = true) ∧ (more.map fun p => hD p.1).Nodup)
  | _ => ∀ p ∈ more, fitK kvs p.1 = true
end
section
variable {K : PySem.W.Frag} {W : Wd}
theorem dMerge_len (more : List (D × D)) : ∀ kvs : List (D × D), (dMerge kvs more).length ≤ kvs.length + more.length := by
  induction more with
  | nil => intro kvs; exact Nat.le_refl _
  | cons p more ih =>
    intro kvs
    have h1 := ih (dPut kvs p.1 p.2)
    have h2 := dPut_length kvs p.1 p.2
    show (dMerge (dPut kvs p.1 p.2) more).length ≤ _
    rw [List.length_cons]; omega
theorem RkK.merge : ∀ {more : List (D × D)} {ms : List (Key × V)} {kvs : List (D × D)} {ks : List (Key × V)}, RkK K W more ms → RkK K W kvs ks → RkK K W (dMerge kvs more) (ms.foldl (fun acc p => putK acc p.1 p.2) ks)
  | [], _, kvs, ks, h, g => by cases h; exact g
  | (k, d) :: r, _, kvs, ks, h, g => by
    obtain ⟨key, v, t, rfl, rfl, h1, h2⟩ := h
    exact RkK.merge (more := r) (ms := t) h2 (g.put h1)
theorem kv_merge {ms : List (Key × V)} {mv : List (Key × Value)} (h : KV ms mv) : ∀ {ks : List (Key × V)} {vs : List (Key × Value)}, KV ks vs → KV (ms.foldl (fun acc p => putK acc p.1 p.2) ks) (merged vs mv) := by
  induction h with
  | nil => intro ks vs g; exact g
  | @cons p q ps qs h _ ih =>
    intro ks vs g
    obtain ⟨p1, p2⟩ := p
    obtain ⟨q1, q2⟩ := q
    obtain ⟨e1, e2⟩ := h
    dsimp only at e1
    subst e1
    exact ih (KV.put g p1 e2)
theorem RkN.merge : ∀ {more : List (D × D)} {ms : List (NestedKey × Addr × V)} {kvs : List (D × D)} {ks : List (NestedKey × Addr × V)}, RkN K W more ms → RkN K W kvs ks → RkN K W (dMerge kvs more) (ms.foldl (fun acc p => putN acc p.1 p.2.1 p.2.2) ks)
  | [], _, kvs, ks, h, g => by cases h; exact g
  | (k, d) :: r, _, kvs, ks, h, g => by
    obtain ⟨n, b, v, t, rfl, h1, h2, h3, h4, h5, h6⟩ := h
    exact RkN.merge (more := r) (ms := t) h6 (g.put h1 h2 h3 h4 h5)
theorem kn_merge {ms : List (NestedKey × Addr × V)} {mv : List (NestedKey × Addr × Value)} (h : KN ms mv) : ∀ {ks : List (NestedKey × Addr × V)} {vs : List (NestedKey × Addr × Value)}, KN ks vs → KN (ms.foldl (fun acc p => putN acc p.1 p.2.1 p.2.2) ks) (PySem.storedAllH vs mv) := by
  induction h with
  | nil => intro ks vs g; exact g
  | @cons p q ps qs h _ ih =>
    intro ks vs g
    obtain ⟨p1, p2, p3⟩ := p
    obtain ⟨q1, q2, q3⟩ := q
    obtain ⟨e1, e2, e3⟩ := h
    dsimp only at e1 e2
    subst e1; subst e2
    exact ih (KN.put g p1 e3)
end
section
variable {X : Cx} {pins : List (Addr × Obj)} {σ : St} {s : Shared} {W : Wd}
theorem pairK_hash {w : World} {d : D} {n : NestedKey} (h : pairK d = true) (hn : nkey d = some n) : n.hash w = hD d := by
  unfold pairK at h
  split at h
  · rename_i a b
    simp only [nkey, nkeys, Option.map_some, Option.some.injEq] at hn
    subst hn
    simp [NestedKey.hash, NestedKey.hashes, hD, hP]
  · cases h
theorem rkN_hash {w : World} : ∀ {kvs : List (D × D)} {ks : List (NestedKey × Addr × V)} {xs : List (NestedKey × Addr × Value)}, RkN X.K W kvs ks → KN ks xs → (∀ p ∈ kvs, pairK p.1 = true) → (xs.map fun x => x.1.hash w) = kvs.map fun p => hD p.1
  | [], _, _, h, r, _ => by cases h; cases r; rfl
  | (k, d) :: t, _, _, h, r, hp => by
    obtain ⟨n', b, u, t', rfl, h0, g1, g2, g3, h1, h2⟩ := h
    cases r with
    | @cons p q ps qs r1 r2 =>
      rw [List.map_cons, List.map_cons, rkN_hash h2 r2 fun z hz => hp z (List.mem_cons_of_mem _ hz)]
      rw [← r1.1, pairK_hash (hp (k, d) List.mem_cons_self) h0]
theorem rkN_tup (I : Inv X pins σ W.H s) : ∀ {kvs : List (D × D)} {ks : List (NestedKey × Addr × V)} {xs : List (NestedKey × Addr × Value)}, RkN X.K W kvs ks → KN ks xs → ∀ x ∈ xs, s.TypeIs (.ref x.2.1) "tuple"
  | [], _, _, h, r, x, hx => by cases h; cases r; cases hx
  | (k, d) :: t, _, _, h, r, x, hx => by
    obtain ⟨n', b, u, t', rfl, h0, g1, ⟨es, g2⟩, g3, h1, h2⟩ := h
    cases r with
    | @cons p q ps qs r1 r2 =>
      rcases List.mem_cons.mp hx with rfl | hx
      · rw [← r1.2.1]
        subst g2
        obtain ⟨ad, vs, e, k1, k2⟩ := g3
        cases e
        obtain ⟨its, rv, ⟨o, ho, hc, _⟩, _⟩ := I.tuple k1
        exact ⟨o, ho, hc⟩
      · exact rkN_tup I h2 r2 x hx
noncomputable def dmUpdate : D → List D → M D := fun x ds S => match x, ds with
  | .ref n, [.ref k] => match S[n]?, S[k]? with
    | some (.dct kvs), some (.dct more) => open Classical in if n ≠ k ∧ updOk kvs more then some (.non, S.set n (.dct (dMerge kvs more))) else none
    | _, _ => none
  | _, _ => none
theorem dm_upd (hu : X.A.units + 190 < cLine) (I : Inv X pins σ W.H s) {a b : Addr} {o o' : HO} {kvs more : List (D × D)} {E : Value → Shared → Prop} (hab : a ≠ b) (hH : W.H a = some o) (hO : DcOb X.prog X.w X.K W a kvs o) (hH2 : W.H b = some o') (hO2 : DcOb X.prog X.w X.K W b more o') (hk : updOk kvs more)
    {Q : Value → Shared → Prop} (h : ∀ o2 s', Inv X pins σ (upd W.H a o2) s' → DcOb X.prog X.w X.K W a (dMerge kvs more) o2 → Q .none s') : wpAny (model X.prog X.w) X.A (call (.builtin "dict.update") [.ref a, .ref b]) Q E s := by
  obtain ⟨hs, hd⟩ := hd_open I (.inl hH) hO
  obtain ⟨hs2, hd2⟩ := hd_open I (.inl hH2) hO2
  have hl := dMerge_len more kvs
  have mu : Mut (W.H a) := by rw [hH]; exact mut_dc hO
  have flat : ∀ ks vs, RkK X.K W kvs ks → KV ks vs → s.heap.DictOf (mixKind X.prog X.w) a vs → ∀ ms mv, RkK X.K W more ms → KV ms mv → s.heap.DictOf (mixKind X.prog X.w) b mv → wpAny (model X.prog X.w) X.A (call (.builtin "dict.update") [.ref a, .ref b]) Q E s := fun ks vs r q d ms mv r2 q2 d2 => by
    have hz : vs.length + mv.length ≤ sizeLine := by rw [← q.length, ← r.length, ← q2.length, ← r2.length]; exact hk.1
    refine call_meetsIn PySem.F.slot_dict_update d.typeIs PySem.F.entry_dict_update (PySem.F.args_dict_update_2 _ _) (meets_dict_update (mixKind X.prog X.w) a b hab hs2) ⟨vs, mv, d, d2, hz, fun h' dd _ hsb => ?_⟩
    have he : ∃ q, h'.get? a = some q := let ⟨q, _, _, hq, _⟩ := dd; ⟨q, hq⟩
    have hlen : (dMerge kvs more).length ≤ sizeLine := Nat.le_trans hl hk.1
    refine h (.dK (ms.foldl (fun acc p => putK acc p.1 p.2) ks)) _ (d_write (t' := s.toks) I mu hsb he (dk_new ?_ hs (kv_merge q2 q) dd)) ⟨hlen, .inl ⟨_, rfl, r2.merge r⟩⟩
    rw [← (r2.merge r).length]; exact hlen
  have tups : (dMerge kvs more) ≠ [] → ∀ ks xs, RkN X.K W kvs ks → KN ks xs → s.heap.DictOfH (nestedKind X.prog X.w) a xs → ∀ ms mv, RkN X.K W more ms → KN ms mv → s.heap.DictOfH (nestedKind X.prog X.w) b mv →
      (xs ≠ [] ∨ ((∀ x ∈ mv, s.TypeIs (.ref x.2.1) "tuple") ∧ (mv.map fun x => (nestedKind X.prog X.w).hash x.1).Nodup)) → wpAny (model X.prog X.w) X.A (call (.builtin "dict.update") [.ref a, .ref b]) Q E s := fun ne ks xs r q d ms mv r2 q2 d2 hap => by
    have hz : xs.length + mv.length ≤ sizeLine := by rw [← Paired.length q, ← r.length, ← Paired.length q2, ← r2.length]; exact hk.1
    refine call_update_dictH (room8 (A := X.A) (by omega)) hab hs2 d d2 hap hz fun h' dd _ hsb => ?_
    have he : ∃ q, h'.get? a = some q := let ⟨q, _, _, hq, _⟩ := dd; ⟨q, hq⟩
    have hlen : (dMerge kvs more).length ≤ sizeLine := Nat.le_trans hl hk.1
    exact h (ObN X.prog X.w a (ms.foldl (fun acc p => putN acc p.1 p.2.1 p.2.2) ks)) _ (d_write (t' := s.toks) I mu hsb he (obN_ok hs (kn_merge q2 q) dd)) ⟨hlen, .inr ⟨ne, _, rfl, r2.merge r⟩⟩
  cases kvs with
  | nil =>
    cases hd with
    | n ks xs ne r q d => exact absurd rfl ne
    | k ks vs r q d =>
      rcases hk.2 with hf | ⟨hp, hn⟩
      · cases hd2 with
        | k ms mv r2 q2 d2 => exact flat ks vs r q d ms mv r2 q2 d2
        | n ms mv ne r2 q2 d2 =>
          cases more with
          | nil => exact absurd rfl ne
          | cons p t =>
            obtain ⟨p1, p2⟩ := p
            obtain ⟨n', b', u, t', rfl, h0, g1, ⟨es, g2⟩, _⟩ := r2
            have := hf (p1, p2) List.mem_cons_self
            rw [show p1 = .tup es from g2] at this; cases this
      · cases hd2 with
        | k ms mv r2 q2 d2 =>
          exact flat ks vs r q d ms mv r2 q2 d2
        | n ms mv ne r2 q2 d2 =>
          refine tups ?_ [] [] rfl .nil ((HD.k ks vs r q d : HD X W s a []).empty rfl) ms mv r2 q2 d2 (.inr ⟨rkN_tup I r2 q2, ?_⟩)
          · cases more with
            | nil => exact absurd rfl ne
            | cons p t =>
              have : ∀ (l : List (D × D)) (acc : List (D × D)), acc ≠ [] → dMerge acc l ≠ [] := by
                intro l
                induction l with
                | nil => intro acc h; exact h
                | cons p l ih => intro acc _; exact ih _ (dPut_ne acc p.1 p.2)
              exact this t _ (dPut_ne [] p.1 p.2)
          · have e : (mv.map fun x => (nestedKind X.prog X.w).hash x.1) = more.map fun p => hD p.1 := rkN_hash r2 q2 hp
            rw [e]; exact hn
  | cons p t =>
    have hne : ∀ (l : List (D × D)) (acc : List (D × D)), acc ≠ [] → dMerge acc l ≠ [] := by
      intro l
      induction l with
      | nil => intro acc h; exact h
      | cons p l ih => intro acc _; exact ih _ (dPut_ne acc p.1 p.2)
    have hfit : ∀ z ∈ more, fitK (p :: t) z.1 = true := hk.2
    cases hd with
    | k ks vs r q d =>
      cases hd2 with
      | k ms mv r2 q2 d2 => exact flat ks vs r q d ms mv r2 q2 d2
      | n ms mv ne r2 q2 d2 =>
        cases more with
        | nil => exact absurd rfl ne
        | cons z y =>
          exfalso
          obtain ⟨z1, z2⟩ := z
          obtain ⟨n', b', u, t', rfl, h0, g1, ⟨es, g2⟩, _⟩ := r2
          obtain ⟨p1, p2⟩ := p
          obtain ⟨key, v', t2, rfl, e1, _⟩ := r
          have := hfit (z1, z2) List.mem_cons_self
          rw [show z1 = .tup es from g2] at this
          have e1 : p1 = keyD key := e1
          subst e1
          simp [fitK, flatK, tup_keyD] at this
    | n ks xs ne r q d =>
      cases hd2 with
      | n ms mv ne2 r2 q2 d2 =>
        refine tups (hne more _ (by simp)) ks xs r q d ms mv r2 q2 d2 (.inl ?_)
        intro z
        have h1 := r.length; have h2 := Paired.length q
        rw [z] at h2; rw [h2] at h1; simp at h1
      | k ms mv r2 q2 d2 =>
        cases more with
        | nil =>
          have : ms = [] := r2
          subst this
          refine tups (hne [] _ (by simp)) ks xs r q d [] [] rfl .nil ((HD.k [] mv r2 q2 d2 : HD X W s b []).empty rfl) (.inl ?_)
          intro z
          have h1 := r.length; have h2 := Paired.length q
          rw [z] at h2; rw [h2] at h1; simp at h1
        | cons z y =>
          exfalso
          obtain ⟨z1, z2⟩ := z
          obtain ⟨key, v', t2, rfl, e1, _⟩ := r2
          obtain ⟨p1, p2⟩ := p
          obtain ⟨n', b', u, t', rfl, h0, g1, ⟨es, g2⟩, _⟩ := r
          have := hfit (z1, z2) List.mem_cons_self
          have e1 : z1 = keyD key := e1
          subst e1
          rw [show p1 = .tup es from g2] at this
          simp [fitK, flatK, tup_keyD] at this
theorem m_dupdate (hu : X.A.units + 190 < cLine) : Mt X "dict.update" dmUpdate := fun pins s σ H y ys v us Q I ry rys h => by
  obtain ⟨W, dx, ds, d, S', rfl, ok, rx, rs, he, q⟩ := h
  unfold dmUpdate at he
  split at he
  · rename_i n k
    split at he
    · rename_i kvs more e1 e2
      split at he
      · rename_i hc
        cases he
        obtain ⟨y1, rfl, r1⟩ := rps_one rs
        obtain ⟨u1, rfl, q1⟩ := vals1 rys
        obtain ⟨a, o, rfl, hn, hH, hO⟩ := place_dct ok e1 rx
        obtain ⟨b, o', rfl, hn2, hH2, hO2⟩ := place_dct ok e2 r1
        obtain rfl : v = .ref a := ry
        obtain rfl : u1 = .ref b := q1
        have hab : a ≠ b := fun z => by
          subst z
          exact hc.1 (ok.inj n k a _ _ hn hn2 e1 e2 (fun z => nomatch z) fun z => nomatch z)
        refine dm_upd hu I hab hH hO hH2 hO2 hc.2 fun o2 s' I' h2 => ?_
        have st := wr_dct ok hn e1 hH hO h2
        exact ⟨.non, _, I', rfl, q _ .non st rfl⟩
      · cases he
    · cases he
  · cases he
end
end Ev
end L2

namespace L2
namespace Ev
open PyProof.Rows PySem.Spec PySem L2
variable [Tb]
/-! ### the counts of a fan, of a spread, up to a number -/
def addP (p q : P2) : P2 := (p.1 + q.1, p.2 + q.2)
def maxP (p : P2) : Int := if p.2 > p.1 then p.2 else p.1
inductive Had (st : List P2) (m : Int) : List P2 → List P2 → List P2 → Prop
  | done (f : List P2) : Had st m f [] f
  | skip {f t : List P2} {h : P2} {r : List P2} (c : ¬ (maxP h ≤ m ∧ h ∉ f)) (k : Had st m f t r) : Had st m f (t ++ [h]) r
  | take {f t : List P2} {h : P2} {r : List P2} (c1 : maxP h ≤ m) (c2 : h ∉ f) (k : Had st m (insP f h) (t ++ st.map (addP h)) r) : Had st m f (t ++ [h]) r
def gridL (m : Int) : List P2 := (List.range (m + 1).toNat).flatMap fun a : Nat => (List.range (m + 1).toNat).map fun b : Nat => ((a : Int), (b : Int))
def freeP (m : Int) (f : List P2) : Nat := (gridL m).countP fun p => !decide (p ∈ f)
def muP (st : List P2) (m : Int) (f t : List P2) : Nat := freeP m f * (st.length + 1) + t.length
def nonP (t : List P2) : Prop := ∀ p ∈ t, 0 ≤ p.1 ∧ 0 ≤ p.2
theorem mem_grid {m : Int} {h : P2} (h1 : 0 ≤ h.1) (h2 : 0 ≤ h.2) (h3 : maxP h ≤ m) : h ∈ gridL m := by
  obtain ⟨a, b⟩ := h
  unfold maxP at h3
  dsimp only at h1 h2 h3
  unfold gridL
  rw [List.mem_flatMap]
  refine ⟨a.toNat, List.mem_range.mpr (by split at h3 <;> omega), List.mem_map.mpr ⟨b.toNat, List.mem_range.mpr (by split at h3 <;> omega), ?_⟩⟩
  rw [Int.toNat_of_nonneg h1, Int.toNat_of_nonneg h2]
theorem countP_lt {p q : P2 → Bool} (hi : ∀ x, q x = true → p x = true) : ∀ (l : List P2) {x : P2}, x ∈ l → p x = true → q x = false → l.countP q < l.countP p
  | [], _, h, _, _ => by cases h
  | a :: l, x, h, h1, h2 => by
    have hle : l.countP q ≤ l.countP p := List.countP_mono_left fun z _ hz => hi z hz
    rw [List.countP_cons, List.countP_cons]
    rcases List.mem_cons.mp h with rfl | h
    · rw [h1, h2]; simp; omega
    · have := countP_lt hi l h h1 h2
      have e : q a = true → p a = true := hi a
      by_cases hq : q a = true
      · rw [hq, e hq]; omega
      · rw [if_neg hq]; omega
theorem free_ins {m : Int} {f : List P2} {h : P2} (hg : h ∈ gridL m) (hf : h ∉ f) : freeP m (insP f h) < freeP m f := by
  unfold freeP
  refine countP_lt (fun x hx => ?_) _ hg (by simpa using hf) (by simp)
  simp at hx ⊢
  exact fun z => hx.1 z
theorem maxP_le {h : P2} {m : Int} (h3 : maxP h ≤ m) : h.1 ≤ m ∧ h.2 ≤ m := by unfold maxP at h3; split at h3 <;> omega
theorem nonP_app {t : List P2} {h : P2} (H : nonP (t ++ [h])) : nonP t ∧ 0 ≤ h.1 ∧ 0 ≤ h.2 := ⟨fun p hp => H p (List.mem_append_left _ hp), H h (List.mem_append_right _ (by simp))⟩
theorem nonP_step {st t : List P2} {h : P2} (hs : nonP st) (H : nonP (t ++ [h])) : nonP (t ++ st.map (addP h)) := by
  obtain ⟨h1, h2, h3⟩ := nonP_app H
  intro p hp
  rcases List.mem_append.mp hp with hp | hp
  · exact h1 p hp
  · obtain ⟨q, hq, rfl⟩ := List.mem_map.mp hp
    have := hs q hq
    unfold addP; dsimp only; omega
theorem mu_skip {st : List P2} {m : Int} {f t : List P2} {h : P2} : muP st m f t + 1 = muP st m f (t ++ [h]) := by unfold muP; rw [List.length_append, List.length_singleton]; omega
theorem mu_take {st : List P2} {m : Int} {f t : List P2} {h : P2} (hg : h ∈ gridL m) (hf : h ∉ f) : muP st m (insP f h) (t ++ st.map (addP h)) < muP st m f (t ++ [h]) := by
  have h1 := free_ins hg hf
  unfold muP
  rw [List.length_append, List.length_append, List.length_map, List.length_singleton]
  have h2 : (freeP m (insP f h) + 1) * (st.length + 1) ≤ freeP m f * (st.length + 1) := Nat.mul_le_mul_right _ h1
  rw [Nat.add_mul] at h2
  omega
theorem had_exists {st : List P2} {m : Int} (hs : nonP st) : ∀ (n : Nat) (f t : List P2), muP st m f t ≤ n → nonP t → ∃ r, Had st m f t r
  | n, f, t, hn, ht => by
    rcases List.eq_nil_or_concat t with rfl | ⟨t', h, rfl⟩
    · exact ⟨f, .done f⟩
    · rw [List.concat_eq_append] at hn ht ⊢
      have hmu := mu_skip (st := st) (m := m) (f := f) (t := t') (h := h)
      obtain ⟨n, rfl⟩ : ∃ k, n = k + 1 := ⟨n - 1, by omega⟩
      by_cases c : maxP h ≤ m ∧ h ∉ f
      · have hg := mem_grid (nonP_app ht).2.1 (nonP_app ht).2.2 c.1
        have h2 := mu_take (st := st) (m := m) (t := t') hg c.2
        obtain ⟨r, hr⟩ := had_exists (m := m) hs n (insP f h) (t' ++ st.map (addP h)) (by omega) (nonP_step hs ht)
        exact ⟨r, .take c.1 c.2 hr⟩
      · obtain ⟨r, hr⟩ := had_exists (m := m) hs n f t' (by omega) (nonP_app ht).1
        exact ⟨r, .skip c hr⟩
/-- room for the loops -/
def roomP (st : List P2) (m : Int) (f t : List P2) : Prop := muP st m f t ≤ 2000000 ∧ f.length + freeP m f ≤ 1000000 ∧ nonP t
theorem roomP.skip {st : List P2} {m : Int} {f t : List P2} {h : P2} (H : roomP st m f (t ++ [h])) : roomP st m f t := ⟨by have := H.1; have := mu_skip (st := st) (m := m) (f := f) (t := t) (h := h); omega, H.2.1, (nonP_app H.2.2).1⟩
theorem roomP.take {st : List P2} {m : Int} {f t : List P2} {h : P2} (hs : nonP st) (H : roomP st m f (t ++ [h])) (c1 : maxP h ≤ m) (c2 : h ∉ f) : roomP st m (insP f h) (t ++ st.map (addP h)) := by
  have hg := mem_grid (nonP_app H.2.2).2.1 (nonP_app H.2.2).2.2 c1
  have h1 := mu_take (st := st) (t := t) hg c2
  have h2 := free_ins hg c2
  have h3 := insP_len f h
  exact ⟨by have := H.1; omega, by have := H.2.1; omega, nonP_step hs H.2.2⟩
theorem roomP.len {st : List P2} {m : Int} {f t : List P2} (H : roomP st m f t) : f.length ≤ 1000000 ∧ t.length ≤ 2000000 := by
  have h1 := H.1; have h2 := H.2.1
  unfold muP at h1
  exact ⟨by omega, by omega⟩
theorem sum_const (c : Nat) : ∀ l : List Nat, (l.map fun _ => c).sum = l.length * c
  | [] => by simp
  | a :: l => by rw [List.map_cons, List.sum_cons, sum_const c l, List.length_cons, Nat.add_mul]; omega
theorem grid_len (m : Int) : (gridL m).length = (m + 1).toNat * (m + 1).toNat := by
  unfold gridL
  rw [List.length_flatMap]
  simp only [List.length_map, List.length_range]
  rw [sum_const, List.length_range]
theorem Had.mem {st : List P2} {m : Int} {f t r : List P2} (H : Had st m f t r) (hs : nonP st) : nonP t → (∀ p ∈ f, 0 ≤ p.1 ∧ 0 ≤ p.2 ∧ maxP p ≤ m) → (∀ p ∈ r, 0 ≤ p.1 ∧ 0 ≤ p.2 ∧ maxP p ≤ m) := by
  induction H with
  | done f => intro _ h; exact h
  | skip c k ih => intro h1 h2; exact ih (nonP_app h1).1 h2
  | take c1 c2 k ih =>
    intro h1 h2
    refine ih (nonP_step hs h1) fun p hp => ?_
    rcases mem_insP.mp hp with hp | rfl
    · exact h2 p hp
    · exact ⟨(nonP_app h1).2.1, (nonP_app h1).2.2, c1⟩
theorem Had.nodup {st : List P2} {m : Int} {f t r : List P2} (H : Had st m f t r) : f.Nodup → r.Nodup := by
  induction H with
  | done f => exact id
  | skip c k ih => exact ih
  | take c1 c2 k ih => exact fun h => ih (insP_nodup h)
theorem Had.len {st : List P2} {m : Int} {f t r : List P2} (H : Had st m f t r) (hs : nonP st) : roomP st m f t → r.length ≤ 1000000 := by
  induction H with
  | done f => intro h; exact h.len.1
  | skip c k ih => intro h; exact ih h.skip
  | take c1 c2 k ih => intro h; exact ih (h.take hs c1 c2)
/-- fans and numbers that few is shown for -/
def okFew (x : Fan × Int) : Prop := (0 ≤ x.1.1.1 ∧ 0 ≤ x.1.1.2) ∧ nonP x.1.2 ∧ x.1.2.length ≤ 20 ∧ x.2 ≤ 200
theorem okFew.room {x : Fan × Int} (h : okFew x) : roomP x.1.2 x.2 [] [x.1.1] := by
  obtain ⟨h1, h2, h3, h4⟩ := h
  have hf : freeP x.2 [] ≤ 201 * 201 := by
    unfold freeP
    refine Nat.le_trans List.countP_le_length ?_
    rw [grid_len]
    exact Nat.mul_le_mul (by omega) (by omega)
  refine ⟨?_, ?_, fun p hp => by rw [List.mem_singleton.mp hp]; exact h1⟩
  · unfold muP
    have : freeP x.2 [] * (x.1.2.length + 1) ≤ (201 * 201) * 21 := Nat.mul_le_mul hf (by omega)
    rw [List.length_singleton]; omega
  · rw [List.length_nil]; omega
noncomputable def hadR (x : Fan × Int) : List P2 := open Classical in if h : ∃ r, Had x.1.2 x.2 [] [x.1.1] r then h.choose else []
theorem hadR_had {x : Fan × Int} (h : okFew x) : Had x.1.2 x.2 [] [x.1.1] (hadR x) := by
  obtain ⟨r, hr⟩ := had_exists h.2.1 _ [] [x.1.1] (Nat.le_refl _) h.room.2.2
  unfold hadR
  rw [dif_pos ⟨r, hr⟩]
  exact (⟨r, hr⟩ : ∃ r, Had x.1.2 x.2 [] [x.1.1] r).choose_spec
def encFM (x : Fan × Int) : List D := [fanD x.1, .int x.2]
noncomputable def p_added : List D → M D := pureP (fun x : P2 × P2 => [pairD x.1, pairD x.2]) (fun _ => True) fun x => pairD (addP x.1 x.2)
/-- a def that makes a dict -/
noncomputable def newP {α : Type} (enc : α → List D) (ok : α → Prop) (c : α → Cell) : List D → M D := fun ds S =>
  open Classical in if h : ∃ a, ok a ∧ ds = enc a then some (.ref S.length, S ++ [c h.choose]) else none
theorem newP_r {α : Type} {enc : α → List D} {ok : α → Prop} {c : α → Cell} (inj : ∀ a b, enc a = enc b → a = b) {a : α} (h : ok a) (S : Store) : newP enc ok c (enc a) S = some (.ref S.length, S ++ [c a]) := by
  unfold newP
  have hx : ∃ b, ok b ∧ enc a = enc b := ⟨a, h, rfl⟩
  rw [dif_pos hx]
  rw [← inj _ _ hx.choose_spec.2]
theorem refines_new {α : Type} {enc : α → List D} {ok : α → Prop} {c : α → Cell} {g : List D → M D} (h : ∀ a, ok a → ∀ S, ∃ j, g (enc a) S = some (.ref S.length, S ++ c a :: j)) (hl : ∀ a, ok a → ∀ n, Cell.low n (c a)) : Refines g (newP enc ok c) := fun ds S d S1 e => by
  unfold newP at e
  split at e
  · rename_i hx
    obtain ⟨h1, h2⟩ := hx.choose_spec
    cases e
    obtain ⟨j, hj⟩ := h _ h1 S
    refine .inr ⟨[c hx.choose], j, rfl, ?_, ?_, ?_⟩
    · rw [List.append_assoc]
      exact (congrArg (fun z => g z S) h2).trans hj
    · simp [D.low]
    · intro c' hc
      rw [List.mem_singleton.mp hc]; exact hl _ h1 _
  · cases e
noncomputable def p_few_in : List D → M D := newP encFM okFew fun x => .dct ((hadR x).map entP)
noncomputable def fewL (x : List Fan × Int) : List P2 := x.1.foldl (fun ks f => (hadR (f, x.2)).foldl insP ks) []
def okFewS (x : List Fan × Int) : Prop := (∀ f ∈ x.1, okFew (f, x.2)) ∧ x.1.length ≤ 20 ∧ x.2 ≤ 20
noncomputable def fewR (x : List Fan × Int) : List P2 := sortP (fewL x)
noncomputable def p_few : List D → M D := pureP (fun x : List Fan × Int => [spreadD x.1, .int x.2]) okFewS fun x => .tup ((fewR x).map pairD)
noncomputable def b_added : MS := (sRet (eTup (aCons (eBin (opAdd false) (eBin opSub2 (eV 0) (eC (.int 0))) (eBin opSub2 (eV 1) (eC (.int 0)))) (aCons (eBin (opAdd false) (eBin opSub2 (eV 0) (eC (.int 1))) (eBin opSub2 (eV 1) (eC (.int 1)))) aNil))))
noncomputable def g_added : List D → M D := runDef 2 b_added
noncomputable def l1_few_in : MS := (sSeq (sAsg (eMeth "list" mPop (eV 3) aNil) (gN 4)) (sIf (tAndD (tOf (eBin opLe (eFn fMax (aCons (eV 4) aNil)) (eV 1))) (tOf (eBin (opIn true) (eV 4) (eV 2)))) (sSeq (sPut (eV 2) (eV 4) (eC (.bl true))) (sDrop (eMeth "list" mExtend (eV 3) (aCons (eLc false [5] (iSeq (eBin opSub2 (eV 0) (eC (.int 1)))) (gN 5) tTrue (eCall 2 p_added (aCons (eV 4) (aCons (eV 5) aNil)))) aNil)))) sNx))
noncomputable def b_few_in : MS := (sSeq (sAsg eDnew (gN 2)) (sSeq (sAsg (eLst true (aCons (eBin opSub2 (eV 0) (eC (.int 0))) aNil)) (gN 3)) (sSeq (sWhile (tOf (eBin opGt (eFn fLen (aCons (eV 3) aNil)) (eC (.int 0)))) l1_few_in) (sRet (eV 2)))))
noncomputable def g_few_in : List D → M D := runDef 6 b_few_in
theorem encFM_inj (a b : Fan × Int) (h : encFM a = encFM b) : a = b := by
  obtain ⟨a1, a2⟩ := a; obtain ⟨b1, b2⟩ := b
  simp only [encFM, List.cons.injEq, D.int.injEq, and_true] at h
  rw [fanD_inj _ _ h.1, h.2]
theorem added_r (p q : P2) (S : Store) : p_added [pairD p, pairD q] S = some (pairD (addP p q), S) :=
  pureP_r (enc := fun x : P2 × P2 => [pairD x.1, pairD x.2]) (fun a b e => by
    obtain ⟨a1, a2⟩ := a; obtain ⟨b1, b2⟩ := b
    simp only [List.cons.injEq, pairD_inj, and_true] at e
    rw [e.1, e.2]) (a := (p, q)) True.intro S
theorem r_added : Refines g_added p_added := refines_pure (fun x _ S => ⟨[], by
  obtain ⟨⟨a, b⟩, c, d⟩ := x
  simp [g_added, runDef, b_added, pairD, at0, at1, addP]⟩) fun _ _ n => by simp [pairD, D.low, D.lows]
theorem pop_last {t : List P2} {h : P2} : ((t ++ [h]).map pairD)[((t ++ [h]).map pairD).length - 1]? = some (pairD h) ∧ ((t ++ [h]).map pairD).dropLast = t.map pairD := by
  rw [List.map_append, List.map_cons, List.map_nil]
  constructor
  · rw [List.length_append, List.length_singleton, Nat.add_sub_cancel, List.getElem?_append_right (Nat.le_refl _), Nat.sub_self]; rfl
  · rw [List.dropLast_concat]
theorem fMax_pair (p : P2) (S : Store) : fMax [pairD p] S = some (.int (maxP p), S) := rfl
theorem few_loop {x0 x1 : D} {f0 : Fan} {m : Int} (e0 : x0 = fanD f0) (e1 : x1 = .int m) (hs : nonP f0.2) (hsl : f0.2.length ≤ 20) (S : Store) {f t r : List P2} (H : Had f0.2 m f t r) : roomP f0.2 m f t → ∀ x4 x5 : Option D, ∃ x4' x5' J,
    sWhile (tOf (eBin opGt (eFn fLen (aCons (eV 3) aNil)) (eC (.int 0)))) l1_few_in [some x0, some x1, some (.ref S.length), some (.ref (S.length + 1)), x4, x5] (S ++ [.dct (f.map entP), .lst (t.map pairD)]) =
      some (.nx [some x0, some x1, some (.ref S.length), some (.ref (S.length + 1)), x4', x5'] (S ++ .dct (r.map entP) :: J)) := by
  subst e0; subst e1
  have test : ∀ (f t : List P2) (x4 x5 : Option D), tOf (eBin opGt (eFn fLen (aCons (eV 3) aNil)) (eC (.int 0))) [some (fanD f0), some (.int m), some (.ref S.length), some (.ref (S.length + 1)), x4, x5] (S ++ [.dct (f.map entP), .lst (t.map pairD)]) = some (decide (0 < t.length), S ++ [.dct (f.map entP), .lst (t.map pairD)]) := fun f t x4 x5 => by
    simp [fLen, readOf, listOf]
  induction H with
  | done f =>
    intro _ x4 x5
    refine ⟨x4, x5, [.lst []], ?_⟩
    rw [sWhile_eq (test f [] x4 x5)]
    simp
  | @skip f t h r c k ih =>
    intro hr x4 x5
    obtain ⟨x4', x5', J, hJ⟩ := ih hr.skip (some (pairD h)) x5
    refine ⟨x4', x5', J, ?_⟩
    rw [sWhile_eq (test f (t ++ [h]) x4 x5), if_pos (by simp)]
    obtain ⟨p1, p2⟩ := pop_last (t := t) (h := h)
    have hp : mPop (.ref (S.length + 1)) [] (S ++ [.dct (f.map entP), .lst ((t ++ [h]).map pairD)]) = some (pairD h, S ++ [.dct (f.map entP), .lst (t.map pairD)]) := by
      unfold mPop
      simp only [at_len1, p1, p2, Option.map_some, set_len1]
    have ht : typD (S ++ [.dct (f.map entP), .lst ((t ++ [h]).map pairD)]) (.ref (S.length + 1)) = "list" := by simp only [typD, at_len1]
    have hin := opIn_P (S := S ++ [.dct (f.map entP), .lst (t.map pairD)]) (n := S.length) (ks := f) (p := h) (neg := true) at_len
    have body : l1_few_in [some (fanD f0), some (.int m), some (.ref S.length), some (.ref (S.length + 1)), x4, x5] (S ++ [.dct (f.map entP), .lst ((t ++ [h]).map pairD)]) = some (.nx [some (fanD f0), some (.int m), some (.ref S.length), some (.ref (S.length + 1)), some (pairD h), x5] (S ++ [.dct (f.map entP), .lst (t.map pairD)])) := by
      simp only [l1_few_in]
      by_cases c1 : maxP h ≤ m
      · have c2 : h ∈ f := Classical.byContradiction fun z => c ⟨c1, z⟩
        simp [hp, ht, fMax_pair, c1, hin, c2, -List.map_append]
      · simp [hp, ht, fMax_pair, c1, -List.map_append]
    rw [body]
    simp only [Option.bind_some, again_nx]
    exact hJ
  | @take f t h r c1 c2 k ih =>
    intro hr x4 x5
    have hr2 := hr.take hs c1 c2
    obtain ⟨x4', x5', J, hJ⟩ := ih hr2 (some (pairD h)) x5
    refine ⟨x4', x5', J, ?_⟩
    rw [sWhile_eq (test f (t ++ [h]) x4 x5), if_pos (by simp)]
    obtain ⟨p1, p2⟩ := pop_last (t := t) (h := h)
    have hp : mPop (.ref (S.length + 1)) [] (S ++ [.dct (f.map entP), .lst ((t ++ [h]).map pairD)]) = some (pairD h, S ++ [.dct (f.map entP), .lst (t.map pairD)]) := by
      unfold mPop
      simp only [at_len1, p1, p2, Option.map_some, set_len1]
    have ht : ∀ u : List D, ∀ c : Cell, typD (S ++ [c, .lst u]) (.ref (S.length + 1)) = "list" := fun u c => by simp only [typD, at_len1]
    have hin := opIn_P (S := S ++ [.dct (f.map entP), .lst (t.map pairD)]) (n := S.length) (ks := f) (p := h) (neg := true) at_len
    have hput : stPut (.ref S.length) (pairD h) (.bl true) (S ++ [.dct (f.map entP), .lst (t.map pairD)]) = some (S ++ [.dct ((insP f h).map entP), .lst (t.map pairD)]) := by
      have z := stPut_P (S := S ++ [.dct (f.map entP), .lst (t.map pairD)]) (n := S.length) (ks := f) (p := h) at_len (size_lt (by have := hr.len.1; have := hr.2.1; have := free_ins (mem_grid (nonP_app hr.2.2).2.1 (nonP_app hr.2.2).2.2 c1) c2; omega))
      rw [set_len] at z; exact z
    have hst : atI [pairD f0.1, .tup (f0.2.map pairD)] 1 = some (.tup (f0.2.map pairD)) := at1 _ _ _
    have hc : ∀ x5, compL gYes [5] (gN 5) tTrue (eCall 2 p_added (aCons (eV 4) (aCons (eV 5) aNil))) (f0.2.map pairD) [some (fanD f0), some (.int m), some (.ref S.length), some (.ref (S.length + 1)), some (pairD h), x5] (S ++ [.dct ((insP f h).map entP), .lst (t.map pairD)]) [] = some ((f0.2.map (addP h)).map pairD, S ++ [.dct ((insP f h).map entP), .lst (t.map pairD)]) := fun x5 => by
      rw [compL_map rfl (fun d => match d with | .tup [.int a, .int b] => pairD (addP h (a, b)) | _ => .non)]
      · rw [List.map_map, List.map_map]; rfl
      · intro d hd
        obtain ⟨p, hp, rfl⟩ := List.mem_map.mp hd
        refine ⟨_, rfl, ?_⟩
        simp [wipeD, added_r]
        rfl
      · rw [List.length_map]; exact size_le (by omega)
    have hl1 : ((f0.2.map (addP h)).map pairD).length ≤ sizeLine := by rw [List.length_map, List.length_map]; exact size_le (by omega)
    have hext : mExtend (.ref (S.length + 1)) [.lst ((f0.2.map (addP h)).map pairD)] (S ++ [.dct ((insP f h).map entP), .lst (t.map pairD)]) = some (.non, S ++ [.dct ((insP f h).map entP), .lst ((t ++ f0.2.map (addP h)).map pairD)]) := by
      have hlen := hr2.len.2
      rw [List.length_append, List.length_map] at hlen
      unfold mExtend
      simp only [at_len1, listOf, Option.bind_some, set_len1]
      rw [if_pos (by rw [List.length_map, List.length_map, List.length_map, sizeLine_eq]; omega), List.map_append]
    have body : l1_few_in [some (fanD f0), some (.int m), some (.ref S.length), some (.ref (S.length + 1)), x4, x5] (S ++ [.dct (f.map entP), .lst ((t ++ [h]).map pairD)]) = some (.nx [some (fanD f0), some (.int m), some (.ref S.length), some (.ref (S.length + 1)), some (pairD h), x5] (S ++ [.dct ((insP f h).map entP), .lst ((t ++ f0.2.map (addP h)).map pairD)])) := by
      have hsub : ∀ S2 : Store, opSub2 (fanD f0) (.int 1) S2 = some (.tup (f0.2.map pairD), S2) := fun S2 => by unfold fanD; rw [opSub2_tup, hst]; rfl
      simp only [l1_few_in]
      simp [hp, ht, fMax_pair, c1, hin, c2, hput, hsub, hc, newL_f hl1, hext, -List.map_append, -List.map_map]
    rw [body]
    simp only [Option.bind_some, again_nx]
    exact hJ
theorem r_few_in : Refines g_few_in p_few_in := refines_new (fun x h S => by
  obtain ⟨f0, m⟩ := x
  obtain ⟨x4', x5', J, hJ⟩ := few_loop (x0 := fanD f0) (x1 := .int m) rfl rfl h.2.1 h.2.2.1 S (hadR_had h) h.room none none
  refine ⟨J, ?_⟩
  have hsub : ∀ S2 : Store, opSub2 (fanD f0) (.int 0) S2 = some (pairD f0.1, S2) := fun S2 => by unfold fanD; rw [opSub2_tup, at0]; rfl
  show g_few_in [fanD f0, .int m] S = _
  simp only [List.map_nil, List.map_cons] at hJ
  simp only [g_few_in, runDef, b_few_in]
  simp [hsub, hJ]) fun x h n => fun p hp => by
    obtain ⟨q, hq, rfl⟩ := List.mem_map.mp hp
    simp [entP, pairD, D.low, D.lows]
end Ev
end L2

namespace L2
namespace Ev
open PyProof.Rows PySem.Spec PySem L2
variable [Tb]
noncomputable def l1_few : MS := (sDrop (eDm dmUpdate (eV 2) (aCons (eCall 2 p_few_in (aCons (eV 3) (aCons (eV 1) aNil))) aNil)))
noncomputable def b_few : MS := (sSeq (sAsg eDnew (gN 2)) (sSeq (sFor (iSeq (eV 0)) (gN 3) l1_few) (sRet (eFn fTuple (aCons (eFn (fSorted false) (aCons (eV 2) aNil)) aNil)))))
noncomputable def g_few : List D → M D := runDef 4 b_few
/-! ### all fans' counts -/
def eqI : Int → Int → Bool
  | .ofNat a, .ofNat b => Nat.beq a b
  | .negSucc a, .negSucc b => Nat.beq a b
  | _, _ => false
theorem eqI_iff : ∀ a b : Int, eqI a b = true ↔ a = b
  | .ofNat a, .ofNat b => by simp [eqI]; omega
  | .negSucc a, .negSucc b => by simp [eqI]
  | .ofNat a, .negSucc b => by simp [eqI]
  | .negSucc a, .ofNat b => by simp [eqI]
def nodB : List Int → Bool
  | [] => true
  | x :: xs => (xs.all fun y => !eqI x y) && nodB xs
theorem nodB_nodup : ∀ l : List Int, nodB l = true → l.Nodup
  | [], _ => List.nodup_nil
  | x :: xs, h => by
    simp only [nodB, Bool.and_eq_true, List.all_eq_true] at h
    refine List.nodup_cons.mpr ⟨fun hx => ?_, nodB_nodup xs h.2⟩
    have z := h.1 x hx
    rw [(eqI_iff x x).mpr rfl] at z; cases z
theorem hash_tab : nodB ((gridL 20).map fun p => hP p.1 p.2) = true := by decide +kernel
theorem map_nodup_inj {α β : Type} {f : α → β} : ∀ {l : List α}, (l.map f).Nodup → ∀ x ∈ l, ∀ y ∈ l, f x = f y → x = y
  | [], _, x, hx, _, _, _ => by cases hx
  | a :: l, h, x, hx, y, hy, e => by
    rw [List.map_cons, List.nodup_cons] at h
    obtain ⟨h1, h2⟩ := h
    rcases List.mem_cons.mp hx with ex | hx1
    · rcases List.mem_cons.mp hy with ey | hy1
      · rw [ex, ey]
      · exact absurd (List.mem_map.mpr ⟨y, hy1, by rw [← e, ex]⟩) h1
    · rcases List.mem_cons.mp hy with ey | hy1
      · exact absurd (List.mem_map.mpr ⟨x, hx1, by rw [e, ey]⟩) h1
      · exact map_nodup_inj h2 x hx1 y hy1 e
theorem hash_inj {p q : P2} (hp : p ∈ gridL 20) (hq : q ∈ gridL 20) (h : hP p.1 p.2 = hP q.1 q.2) : p = q := map_nodup_inj (nodB_nodup _ hash_tab) p hp q hq h
theorem nodup_map_on {α β : Type} {f : α → β} : ∀ {l : List α}, (∀ x ∈ l, ∀ y ∈ l, f x = f y → x = y) → l.Nodup → (l.map f).Nodup
  | [], _, _ => List.nodup_nil
  | a :: l, h, n => by
    rw [List.nodup_cons] at n
    rw [List.map_cons, List.nodup_cons]
    refine ⟨fun z => ?_, nodup_map_on (fun x hx y hy => h x (List.mem_cons_of_mem _ hx) y (List.mem_cons_of_mem _ hy)) n.2⟩
    obtain ⟨b, hb, e⟩ := List.mem_map.mp z
    have := h b (List.mem_cons_of_mem _ hb) a List.mem_cons_self e
    subst this; exact n.1 hb
theorem Had.size {st : List P2} {m : Int} {f t r : List P2} (H : Had st m f t r) (hs : nonP st) : nonP t → r.length + freeP m r ≤ f.length + freeP m f := by
  induction H with
  | done f => intro _; exact Nat.le_refl _
  | skip c k ih => intro h; exact ih (nonP_app h).1
  | @take f t h r c1 c2 k ih =>
    intro hn
    have h1 := ih (nonP_step hs hn)
    have h2 := free_ins (mem_grid (nonP_app hn).2.1 (nonP_app hn).2.2 c1) c2
    have h3 := insP_len f h
    omega
theorem hadR_facts {x : Fan × Int} (h : okFew x) : (∀ p ∈ hadR x, 0 ≤ p.1 ∧ 0 ≤ p.2 ∧ maxP p ≤ x.2) ∧ (hadR x).Nodup ∧ (hadR x).length ≤ (x.2 + 1).toNat * (x.2 + 1).toNat := by
  have H := hadR_had h
  refine ⟨H.mem h.2.1 h.room.2.2 (by simp), H.nodup List.nodup_nil, ?_⟩
  have h1 := H.size h.2.1 h.room.2.2
  have h2 : freeP x.2 [] ≤ (x.2 + 1).toNat * (x.2 + 1).toNat := by
    unfold freeP
    rw [← grid_len]
    exact List.countP_le_length
  rw [List.length_nil] at h1; omega
theorem dMerge_P (r : List P2) : ∀ ks : List P2, dMerge (ks.map entP) (r.map entP) = (r.foldl insP ks).map entP := by
  induction r with
  | nil => intro ks; rfl
  | cons p r ih =>
    intro ks
    show dMerge (dPut (ks.map entP) (pairD p) (.bl true)) (r.map entP) = _
    rw [dPut_P]; exact ih _
theorem foldl_ins_len (r : List P2) : ∀ ks : List P2, (r.foldl insP ks).length ≤ ks.length + r.length := by
  induction r with
  | nil => intro ks; exact Nat.le_refl _
  | cons p r ih =>
    intro ks
    have h1 := ih (insP ks p)
    have h2 := insP_len ks p
    rw [List.foldl_cons, List.length_cons]; omega
theorem hD_ent (x : P2) : hD (entP x).1 = hP x.1 x.2 := by unfold entP pairD; rw [hD]
theorem hash_nodup {r : List P2} (hn : r.Nodup) (hg : ∀ p ∈ r, p ∈ gridL 20) : (r.map fun x => hP x.1 x.2).Nodup := nodup_map_on (fun x hx y hy e => hash_inj (hg x hx) (hg y hy) e) hn
theorem hD_map : ∀ r : List P2, ((r.map entP).map fun p => hD p.1) = r.map fun x => hP x.1 x.2
  | [] => rfl
  | x :: r => by
    have h := hD_map r
    rw [List.map_cons, List.map_cons, List.map_cons, h, hD_ent x]
theorem pairK_map (r : List P2) : ∀ p ∈ r.map entP, pairK p.1 = true := fun p hp => by
  obtain ⟨q, hq, rfl⟩ := List.mem_map.mp hp; rfl
theorem updOk_P {ks r : List P2} (hl : ks.length + r.length ≤ 16777216) (hn : r.Nodup) (hg : ∀ p ∈ r, p ∈ gridL 20) : updOk (ks.map entP) (r.map entP) := by
  have h1 : (ks.map entP).length + (r.map entP).length ≤ sizeLine := by rw [List.length_map, List.length_map, sizeLine_eq]; exact hl
  refine ⟨h1, ?_⟩
  cases ks with
  | nil => exact .inr ⟨pairK_map r, by rw [hD_map]; exact hash_nodup hn hg⟩
  | cons k ks =>
    intro p hp
    obtain ⟨q, hq, rfl⟩ := List.mem_map.mp hp
    exact fitK_P (k :: ks) q
theorem upd_P {S J : Store} {ks r : List P2} (hl : ks.length + r.length ≤ 16777216) (hn : r.Nodup) (hg : ∀ p ∈ r, p ∈ gridL 20) :
    dmUpdate (.ref S.length) [.ref (S.length + 1 + J.length)] (S ++ .dct (ks.map entP) :: (J ++ [.dct (r.map entP)])) = some (.non, S ++ .dct ((r.foldl insP ks).map entP) :: (J ++ [.dct (r.map entP)])) := by
  have h2 : (S ++ .dct (ks.map entP) :: (J ++ [.dct (r.map entP)]))[S.length + 1 + J.length]? = some (.dct (r.map entP)) := by
    rw [List.getElem?_append_right (by omega), show S.length + 1 + J.length - S.length = J.length + 1 by omega, List.getElem?_cons_succ, List.getElem?_append_right (Nat.le_refl _), Nat.sub_self]; rfl
  unfold dmUpdate
  simp only [at_len, h2]
  rw [if_pos ⟨by omega, updOk_P hl hn hg⟩, set_len, dMerge_P]
theorem few_in_r {x : Fan × Int} (h : okFew x) (S : Store) : p_few_in [fanD x.1, .int x.2] S = some (.ref S.length, S ++ [.dct ((hadR x).map entP)]) := newP_r (enc := encFM) encFM_inj h S
theorem hadR_grid {x : Fan × Int} (h : okFew x) (h20 : x.2 ≤ 20) : ∀ p ∈ hadR x, p ∈ gridL 20 := fun p hp => by
  have := (hadR_facts h).1 p hp
  exact mem_grid this.1 this.2.1 (by omega)
theorem few_spread {s : List Fan} {m : Int} (h : okFewS (s, m)) (S : Store) {body : MS} (hb : ∀ (f : Fan) (x0 x1 x3 : Option D) (ks : List P2) (J : Store), okFew (f, m) → x0 = some (spreadD s) → x1 = some (.int m) → ks.length ≤ 441 * 20 →
      ∃ J', body [x0, x1, some (.ref S.length), some (fanD f)] (S ++ .dct (ks.map entP) :: J) = some (.nx [x0, x1, some (.ref S.length), some (fanD f)] (S ++ .dct (((hadR (f, m)).foldl insP ks).map entP) :: J'))) :
    ∃ x3 J, forL gYes (gN 3) body (s.map fanD) [some (spreadD s), some (.int m), some (.ref S.length), none] (S ++ [.dct []]) = some (.nx [some (spreadD s), some (.int m), some (.ref S.length), x3] (S ++ .dct ((fewL (s, m)).map entP) :: J)) ∧ (fewL (s, m)).length ≤ 441 * 20 := by
  obtain ⟨ρ', S', h1, ⟨x3, J, rfl, rfl⟩, hlen, _⟩ := forL_fold (g := gYes) (tg := gN 3) (body := body) fanD (fun ks f => (hadR (f, m)).foldl insP ks)
    (fun as ks ρ S2 => (∃ x3 J, ρ = [some (spreadD s), some (.int m), some (.ref S.length), x3] ∧ S2 = S ++ .dct (ks.map entP) :: J) ∧ ks.length + 441 * as.length ≤ 441 * 20 ∧ ∀ f ∈ as, okFew (f, m)) (by
      rintro f as ks ρ S2 ⟨⟨x3, J, rfl, rfl⟩, hl, hf⟩
      simp only [List.length_cons] at hl
      have of := hf f List.mem_cons_self
      obtain ⟨J', e⟩ := hb f (some (spreadD s)) (some (.int m)) (some (fanD f)) ks J of rfl rfl (by omega)
      refine ⟨rfl, [some (spreadD s), some (.int m), some (.ref S.length), some (fanD f)], rfl, ?_⟩
      rw [e]
      refine ⟨⟨_, _, rfl, rfl⟩, ?_, fun g hg => hf g (List.mem_cons_of_mem _ hg)⟩
      have h1 := foldl_ins_len (hadR (f, m)) ks
      have h2 := (hadR_facts of).2.2
      have h3 : (m + 1).toNat * (m + 1).toNat ≤ 21 * 21 := Nat.mul_le_mul (by have := h.2.2; dsimp only at this; omega) (by have := h.2.2; dsimp only at this; omega)
      dsimp only at h2
      omega) (fun _ _ _ _ => rfl)
    s [] [some (spreadD s), some (.int m), some (.ref S.length), none] (S ++ [.dct []]) ⟨⟨none, [], rfl, rfl⟩, by have := h.2.1; dsimp only at this; simp; omega, h.1⟩
  exact ⟨x3, J, h1, by unfold fewL; simp only [List.length_nil, Nat.mul_zero, Nat.add_zero] at hlen; exact hlen⟩
theorem few_body {s : List Fan} {m : Int} (h20 : m ≤ 20) (S : Store) (f : Fan) (x0 x1 : Option D) (ks : List P2) (J : Store) (of : okFew (f, m)) (e0 : x0 = some (spreadD s)) (e1 : x1 = some (.int m)) (hk : ks.length ≤ 441 * 20) :
    ∃ J', l1_few [x0, x1, some (.ref S.length), some (fanD f)] (S ++ .dct (ks.map entP) :: J) = some (.nx [x0, x1, some (.ref S.length), some (fanD f)] (S ++ .dct (((hadR (f, m)).foldl insP ks).map entP) :: J')) := by
  subst e0; subst e1
  have h2 := (hadR_facts of).2.2
  have h3 : (m + 1).toNat * (m + 1).toNat ≤ 21 * 21 := Nat.mul_le_mul (by omega) (by omega)
  dsimp only at h2
  have hin := few_in_r of (S ++ .dct (ks.map entP) :: J)
  have elen : (S ++ .dct (ks.map entP) :: J).length = S.length + 1 + J.length := by simp; omega
  rw [elen, List.append_assoc, List.cons_append] at hin
  have hup := upd_P (S := S) (J := J) (ks := ks) (r := hadR (f, m)) (by omega) (hadR_facts of).2.1 (hadR_grid of h20)
  have hd : dctOf (S ++ .dct (ks.map entP) :: J) (.ref S.length) = some (ks.map entP) := by simp only [dctOf, at_len]
  refine ⟨J ++ [.dct ((hadR (f, m)).map entP)], ?_⟩
  simp only [l1_few]
  simp [hd, hin, hup]
theorem r_few : Refines g_few p_few := refines_pure (fun x h S => by
  obtain ⟨s, m⟩ := x
  obtain ⟨x3, J, h1, hlen⟩ := few_spread h S (body := l1_few) fun f x0 x1 x3 ks J of e0 e1 hk => few_body h.2.2 S f x0 x1 ks J of e0 e1 hk
  have hso := fSorted_P (S := S ++ .dct ((fewL (s, m)).map entP) :: J) (n := S.length) (ks := fewL (s, m)) at_len (size_le (by omega))
  refine ⟨.dct ((fewL (s, m)).map entP) :: J, ?_⟩
  show g_few [.tup (s.map fanD), .int m] S = _
  have h1' : forL gYes (gN 3) l1_few (s.map fanD) [some (.tup (s.map fanD)), some (.int m), some (.ref S.length), none] (S ++ [.dct []]) = _ := h1
  simp only [g_few, runDef, b_few]
  simp [h1', hso]
  rfl) fun x h n => low_noB _ (by rw [D.noB]; exact noBs_map _ fun p _ => noB_pair p)
theorem few_r {x : List Fan × Int} (h : okFewS x) (S : Store) : p_few [spreadD x.1, .int x.2] S = some (.tup ((fewR x).map pairD), S) :=
  pureP_r (enc := fun x : List Fan × Int => [spreadD x.1, .int x.2]) (fun a b e => by
    obtain ⟨a1, a2⟩ := a; obtain ⟨b1, b2⟩ := b
    simp only [List.cons.injEq, D.int.injEq, and_true] at e
    rw [spreadD_inj _ _ e.1, e.2]) h S
end Ev
end L2

namespace L2
namespace Ev
open PyProof.Rows PySem.Spec PySem L2
variable [Tb]
/-! ### the law's own counts -/
noncomputable def p_law_had : List D → M D := newP encFM okFew fun x => .dct ((hadR x).map entP)
def encSM (x : List Fan × Int) : List D := [spreadD x.1, .int x.2]
noncomputable def p_law_few : List D → M D := newP encSM okFewS fun x => .dct ((fewL x).map entP)
noncomputable def l1_law_had : MS := (sSeq (sAsg (eMeth "list" mPop (eV 3) aNil) (gN 4)) (sIf (tAndD (tOf (eBin opLe (eFn fMax (aCons (eV 4) aNil)) (eV 1))) (tOf (eBin (opIn true) (eV 4) (eV 2)))) (sSeq (sPut (eV 2) (eV 4) (eC (.bl true))) (sAsg (eBin (opAdd true) (eV 3) (eLc false [5] (iSeq (eBin opSub2 (eV 0) (eC (.int 1)))) (gN 5) tTrue (eTup (aCons (eBin (opAdd false) (eBin opSub2 (eV 4) (eC (.int 0))) (eBin opSub2 (eV 5) (eC (.int 0)))) (aCons (eBin (opAdd false) (eBin opSub2 (eV 4) (eC (.int 1))) (eBin opSub2 (eV 5) (eC (.int 1)))) aNil))))) (gN 3))) sNx))
noncomputable def b_law_had : MS := (sSeq (sAsg eDnew (gN 2)) (sSeq (sAsg (eLst true (aCons (eBin opSub2 (eV 0) (eC (.int 0))) aNil)) (gN 3)) (sSeq (sWhile (tOf (eBin (opEq true) (eV 3) (eLst false aNil))) l1_law_had) (sRet (eV 2)))))
noncomputable def g_law_had : List D → M D := runDef 6 b_law_had
noncomputable def l1_law_few : MS := (sDrop (eDm dmUpdate (eV 2) (aCons (eCall 2 p_law_had (aCons (eV 3) (aCons (eV 1) aNil))) aNil)))
noncomputable def b_law_few : MS := (sSeq (sAsg eDnew (gN 2)) (sSeq (sFor (iSeq (eV 0)) (gN 3) l1_law_few) (sRet (eV 2))))
noncomputable def g_law_few : List D → M D := runDef 4 b_law_few
theorem atJ {S J : Store} {c : Cell} (i : Nat) : (S ++ c :: J)[S.length + 1 + i]? = J[i]? := by
  rw [List.getElem?_append_right (by omega), show S.length + 1 + i - S.length = i + 1 by omega, List.getElem?_cons_succ]
theorem setJ {S J : Store} {c c' : Cell} (i : Nat) : (S ++ c :: J).set (S.length + 1 + i) c' = S ++ c :: J.set i c' := by
  rw [List.set_append_right _ _ (by omega), show S.length + 1 + i - S.length = i + 1 by omega]; rfl
theorem had_loop {x0 x1 : D} {f0 : Fan} {m : Int} (e0 : x0 = fanD f0) (e1 : x1 = .int m) (hs : nonP f0.2) (hsl : f0.2.length ≤ 20) (S : Store) {f t r : List P2} (H : Had f0.2 m f t r) : roomP f0.2 m f t → ∀ (x4 x5 : Option D) (J : Store) (i : Nat), J[i]? = some (.lst (t.map pairD)) → ∃ x3' x4' x5' J',
    sWhile (tOf (eBin (opEq true) (eV 3) (eLst false aNil))) l1_law_had [some x0, some x1, some (.ref S.length), some (.ref (S.length + 1 + i)), x4, x5] (S ++ .dct (f.map entP) :: J) =
      some (.nx [some x0, some x1, some (.ref S.length), x3', x4', x5'] (S ++ .dct (r.map entP) :: J')) := by
  subst e0; subst e1
  have test : ∀ (f t : List P2) (x4 x5 : Option D) (J : Store) (i : Nat), J[i]? = some (.lst (t.map pairD)) → tOf (eBin (opEq true) (eV 3) (eLst false aNil)) [some (fanD f0), some (.int m), some (.ref S.length), some (.ref (S.length + 1 + i)), x4, x5] (S ++ .dct (f.map entP) :: J) = some (decide (t ≠ []), S ++ .dct (f.map entP) :: J) := fun f t x4 x5 J i hi => by
    have e : opEq true (.ref (S.length + 1 + i)) (.lst []) (S ++ .dct (f.map entP) :: J) = some (.bl (decide (t ≠ [])), S ++ .dct (f.map entP) :: J) := by
      unfold opEq
      have h1 : py2 (S ++ .dct (f.map entP) :: J) (.ref (S.length + 1 + i)) = some (.list (ordKs (t.map pairD))) := by
        simp only [py2, atJ, hi]
        rw [py1s_noB _ _ (noBs_map _ fun p _ => noB_pair p)]; rfl
      rw [h1]
      have h2 : py2 (S ++ .dct (f.map entP) :: J) (.lst []) = some (.list []) := rfl
      rw [h2]
      simp only [Option.bind_some]
      rw [if_pos (by simp [PyData.depth, PyData.depthAll])]
      cases t with
      | nil => simp [ordKs, PyData.eqv, PyData.eqvAll]
      | cons p t => simp [ordKs, PyData.eqv, PyData.eqvAll]
    simp [e]
  induction H with
  | done f =>
    intro _ x4 x5 J i hi
    refine ⟨some (.ref (S.length + 1 + i)), x4, x5, J, ?_⟩
    rw [sWhile_eq (test f [] x4 x5 J i hi)]
    simp
  | @skip f t h r c k ih =>
    intro hr x4 x5 J i hi
    have hlt : i < J.length := (List.getElem?_eq_some_iff.mp hi).1
    obtain ⟨x3', x4', x5', J', hJ⟩ := ih hr.skip (some (pairD h)) x5 (J.set i (.lst (t.map pairD))) i (List.getElem?_set_self hlt)
    refine ⟨x3', x4', x5', J', ?_⟩
    rw [sWhile_eq (test f (t ++ [h]) x4 x5 J i hi), if_pos (by simp)]
    obtain ⟨p1, p2⟩ := pop_last (t := t) (h := h)
    have hp : mPop (.ref (S.length + 1 + i)) [] (S ++ .dct (f.map entP) :: J) = some (pairD h, S ++ .dct (f.map entP) :: J.set i (.lst (t.map pairD))) := by
      unfold mPop
      simp only [atJ, hi, p1, p2, Option.map_some, setJ]
    have ht : typD (S ++ .dct (f.map entP) :: J) (.ref (S.length + 1 + i)) = "list" := by simp only [typD, atJ, hi]
    have hin := opIn_P (S := S ++ .dct (f.map entP) :: J.set i (.lst (t.map pairD))) (n := S.length) (ks := f) (p := h) (neg := true) at_len
    have body : l1_law_had [some (fanD f0), some (.int m), some (.ref S.length), some (.ref (S.length + 1 + i)), x4, x5] (S ++ .dct (f.map entP) :: J) = some (.nx [some (fanD f0), some (.int m), some (.ref S.length), some (.ref (S.length + 1 + i)), some (pairD h), x5] (S ++ .dct (f.map entP) :: J.set i (.lst (t.map pairD)))) := by
      simp only [l1_law_had]
      by_cases c1 : maxP h ≤ m
      · have c2 : h ∈ f := Classical.byContradiction fun z => c ⟨c1, z⟩
        simp [hp, ht, fMax_pair, c1, hin, c2, -List.map_append]
      · simp [hp, ht, fMax_pair, c1, -List.map_append]
    rw [body]
    simp only [Option.bind_some, again_nx]
    exact hJ
  | @take f t h r c1 c2 k ih =>
    intro hr x4 x5 J i hi
    have hlt : i < J.length := (List.getElem?_eq_some_iff.mp hi).1
    have hr2 := hr.take hs c1 c2
    obtain ⟨x3', x4', x5', J', hJ⟩ := ih hr2 (some (pairD h)) x5 (J.set i (.lst (t.map pairD)) ++ [.lst ((t ++ f0.2.map (addP h)).map pairD)]) J.length (by
      rw [List.getElem?_append_right (by rw [List.length_set]; exact Nat.le_refl _), List.length_set, Nat.sub_self]; rfl)
    refine ⟨x3', x4', x5', J', ?_⟩
    rw [sWhile_eq (test f (t ++ [h]) x4 x5 J i hi), if_pos (by simp)]
    obtain ⟨p1, p2⟩ := pop_last (t := t) (h := h)
    have hp : mPop (.ref (S.length + 1 + i)) [] (S ++ .dct (f.map entP) :: J) = some (pairD h, S ++ .dct (f.map entP) :: J.set i (.lst (t.map pairD))) := by
      unfold mPop
      simp only [atJ, hi, p1, p2, Option.map_some, setJ]
    have ht : typD (S ++ .dct (f.map entP) :: J) (.ref (S.length + 1 + i)) = "list" := by simp only [typD, atJ, hi]
    have hin := opIn_P (S := S ++ .dct (f.map entP) :: J.set i (.lst (t.map pairD))) (n := S.length) (ks := f) (p := h) (neg := true) at_len
    have hput : stPut (.ref S.length) (pairD h) (.bl true) (S ++ .dct (f.map entP) :: J.set i (.lst (t.map pairD))) = some (S ++ .dct ((insP f h).map entP) :: J.set i (.lst (t.map pairD))) := by
      have z := stPut_P (S := S ++ .dct (f.map entP) :: J.set i (.lst (t.map pairD))) (n := S.length) (ks := f) (p := h) at_len (size_lt (by have := hr.2.1; have := free_ins (mem_grid (nonP_app hr.2.2).2.1 (nonP_app hr.2.2).2.2 c1) c2; omega))
      rw [set_len] at z; exact z
    have hsub : ∀ S2 : Store, opSub2 (fanD f0) (.int 1) S2 = some (.tup (f0.2.map pairD), S2) := fun S2 => by unfold fanD; rw [opSub2_tup, at1]; rfl
    have q0 : ∀ (p : P2) (S2 : Store), opSub2 (pairD p) (.int 0) S2 = some (.int p.1, S2) := fun p S2 => by unfold pairD; rw [opSub2_tup, at0]; rfl
    have q1 : ∀ (p : P2) (S2 : Store), opSub2 (pairD p) (.int 1) S2 = some (.int p.2, S2) := fun p S2 => by unfold pairD; rw [opSub2_tup, at1]; rfl
    have hc : ∀ S2 : Store, compL gYes [5] (gN 5) tTrue (eTup (aCons (eBin (opAdd false) (eBin opSub2 (eV 4) (eC (.int 0))) (eBin opSub2 (eV 5) (eC (.int 0)))) (aCons (eBin (opAdd false) (eBin opSub2 (eV 4) (eC (.int 1))) (eBin opSub2 (eV 5) (eC (.int 1)))) aNil))) (f0.2.map pairD) [some (fanD f0), some (.int m), some (.ref S.length), some (.ref (S.length + 1 + i)), some (pairD h), x5] S2 [] = some ((f0.2.map (addP h)).map pairD, S2) := fun S2 => by
      rw [compL_map rfl (fun d => match d with | .tup [.int a, .int b] => pairD (addP h (a, b)) | _ => .non)]
      · rw [List.map_map, List.map_map]; rfl
      · intro d hd
        obtain ⟨p, hp, rfl⟩ := List.mem_map.mp hd
        refine ⟨_, rfl, ?_⟩
        simp [wipeD, q0, q1]
        rfl
      · rw [List.length_map]; exact size_le (by omega)
    have hl1 : ((f0.2.map (addP h)).map pairD).length ≤ sizeLine := by rw [List.length_map, List.length_map]; exact size_le (by omega)
    have hadd : opAdd true (.ref (S.length + 1 + i)) (.lst ((f0.2.map (addP h)).map pairD)) (S ++ .dct ((insP f h).map entP) :: J.set i (.lst (t.map pairD))) = some (.ref (S.length + 1 + J.length), S ++ .dct ((insP f h).map entP) :: (J.set i (.lst (t.map pairD)) ++ [.lst ((t ++ f0.2.map (addP h)).map pairD)])) := by
      have hlen := hr2.len.2
      rw [List.length_append, List.length_map] at hlen
      have hL : listOf (S ++ .dct ((insP f h).map entP) :: J.set i (.lst (t.map pairD))) (.ref (S.length + 1 + i)) = some (t.map pairD) := by simp only [listOf, atJ, List.getElem?_set_self hlt]
      have hL2 : listOf (S ++ .dct ((insP f h).map entP) :: J.set i (.lst (t.map pairD))) (.lst ((f0.2.map (addP h)).map pairD)) = some ((f0.2.map (addP h)).map pairD) := rfl
      simp only [opAdd, hL, hL2, Option.bind_some]
      rw [newL_t (by rw [List.length_append, List.length_map, List.length_map, List.length_map, sizeLine_eq]; omega)]
      have hlen2 : (S ++ .dct ((insP f h).map entP) :: J.set i (.lst (t.map pairD))).length = S.length + 1 + J.length := by simp; omega
      rw [hlen2, List.append_assoc, List.cons_append, List.map_append]
    have body : l1_law_had [some (fanD f0), some (.int m), some (.ref S.length), some (.ref (S.length + 1 + i)), x4, x5] (S ++ .dct (f.map entP) :: J) = some (.nx [some (fanD f0), some (.int m), some (.ref S.length), some (.ref (S.length + 1 + J.length)), some (pairD h), x5] (S ++ .dct ((insP f h).map entP) :: (J.set i (.lst (t.map pairD)) ++ [.lst ((t ++ f0.2.map (addP h)).map pairD)]))) := by
      simp only [l1_law_had]
      simp [hp, ht, fMax_pair, c1, hin, c2, hput, hsub, hc, newL_f hl1, hadd, -List.map_append, -List.map_map]
    rw [body]
    simp only [Option.bind_some, again_nx]
    exact hJ
theorem r_law_had : Refines g_law_had p_law_had := refines_new (fun x h S => by
  obtain ⟨f0, m⟩ := x
  obtain ⟨x3', x4', x5', J, hJ⟩ := had_loop (x0 := fanD f0) (x1 := .int m) rfl rfl h.2.1 h.2.2.1 S (hadR_had h) h.room none none [.lst ([f0.1].map pairD)] 0 rfl
  refine ⟨J, ?_⟩
  have hsub : ∀ S2 : Store, opSub2 (fanD f0) (.int 0) S2 = some (pairD f0.1, S2) := fun S2 => by unfold fanD; rw [opSub2_tup, at0]; rfl
  show g_law_had [fanD f0, .int m] S = _
  simp only [List.map_nil, List.map_cons, Nat.add_zero] at hJ
  simp only [g_law_had, runDef, b_law_had]
  simp [hsub, hJ]) fun x h n => fun p hp => by
    obtain ⟨q, hq, rfl⟩ := List.mem_map.mp hp
    simp [entP, pairD, D.low, D.lows]
theorem law_had_r {x : Fan × Int} (h : okFew x) (S : Store) : p_law_had [fanD x.1, .int x.2] S = some (.ref S.length, S ++ [.dct ((hadR x).map entP)]) := newP_r (enc := encFM) encFM_inj h S
theorem law_few_body {s : List Fan} {m : Int} (h20 : m ≤ 20) (S : Store) (f : Fan) (x0 x1 : Option D) (ks : List P2) (J : Store) (of : okFew (f, m)) (e0 : x0 = some (spreadD s)) (e1 : x1 = some (.int m)) (hk : ks.length ≤ 441 * 20) :
    ∃ J', l1_law_few [x0, x1, some (.ref S.length), some (fanD f)] (S ++ .dct (ks.map entP) :: J) = some (.nx [x0, x1, some (.ref S.length), some (fanD f)] (S ++ .dct (((hadR (f, m)).foldl insP ks).map entP) :: J')) := by
  subst e0; subst e1
  have h2 := (hadR_facts of).2.2
  have h3 : (m + 1).toNat * (m + 1).toNat ≤ 21 * 21 := Nat.mul_le_mul (by omega) (by omega)
  dsimp only at h2
  have hin := law_had_r of (S ++ .dct (ks.map entP) :: J)
  have elen : (S ++ .dct (ks.map entP) :: J).length = S.length + 1 + J.length := by simp; omega
  rw [elen, List.append_assoc, List.cons_append] at hin
  have hup := upd_P (S := S) (J := J) (ks := ks) (r := hadR (f, m)) (by omega) (hadR_facts of).2.1 (hadR_grid of h20)
  have hd : dctOf (S ++ .dct (ks.map entP) :: J) (.ref S.length) = some (ks.map entP) := by simp only [dctOf, at_len]
  refine ⟨J ++ [.dct ((hadR (f, m)).map entP)], ?_⟩
  simp only [l1_law_few]
  simp [hd, hin, hup]
theorem encSM_inj (a b : List Fan × Int) (e : encSM a = encSM b) : a = b := by
  obtain ⟨a1, a2⟩ := a; obtain ⟨b1, b2⟩ := b
  simp only [encSM, List.cons.injEq, D.int.injEq, and_true] at e
  rw [spreadD_inj _ _ e.1, e.2]
theorem r_law_few : Refines g_law_few p_law_few := refines_new (fun x h S => by
  obtain ⟨s, m⟩ := x
  obtain ⟨x3, J, h1, hlen⟩ := few_spread h S (body := l1_law_few) fun f x0 x1 x3 ks J of e0 e1 hk => law_few_body h.2.2 S f x0 x1 ks J of e0 e1 hk
  refine ⟨J, ?_⟩
  show g_law_few [.tup (s.map fanD), .int m] S = _
  have h1' : forL gYes (gN 3) l1_law_few (s.map fanD) [some (.tup (s.map fanD)), some (.int m), some (.ref S.length), none] (S ++ [.dct []]) = _ := h1
  simp only [g_law_few, runDef, b_law_few]
  simp [h1']) fun x h n => fun p hp => by
    obtain ⟨q, hq, rfl⟩ := List.mem_map.mp hp
    simp [entP, pairD, D.low, D.lows]
theorem law_few_r {x : List Fan × Int} (h : okFewS x) (S : Store) : p_law_few [spreadD x.1, .int x.2] S = some (.ref S.length, S ++ [.dct ((fewL x).map entP)]) := newP_r (enc := encSM) encSM_inj h S
theorem mixed_r {ns : List Int} {k : Int} (hk : 0 ≤ k) (S : Store) : p_law_mixed [.scr ns, .int k] S = some (.int (mixV (ns.getD k.toNat 0) k), S) := by simp [p_law_mixed, hk]
theorem spread_r {n m : Int} (hm : 0 ≤ m) (S : Store) : p_law_spread [.int n, .int m] S = some (spreadD (spreadV n m), S) := by simp [p_law_spread, hm]
theorem grammar_r {n : Int} (S : Store) : p_law_grammar [.int n] S = some (gramD (gramV n), S) := rfl
theorem okFew_fanV {n m k : Int} (hm : 0 ≤ m) (hk : k ≤ 200) : okFew (fanV n m, k) := by
  have b := fanV_base (n := n) hm
  refine ⟨⟨b.1.1, b.2.1⟩, fun p hp => ?_, by have := fanV_len n m; dsimp only; omega, hk⟩
  have q := fanV_step hp
  exact ⟨q.1.1, q.2.1.1⟩
theorem okFewS_spreadV {n m k : Int} (hm : 0 ≤ m) (hk : k ≤ 20) : okFewS (spreadV n m, k) := by
  refine ⟨fun f hf => ?_, by have := spreadV_len n m; dsimp only; omega, hk⟩
  obtain ⟨j, _, rfl⟩ := List.mem_map.mp hf
  exact okFew_fanV hm (by dsimp only; omega)
end Ev
end L2

namespace L2
namespace Ev
open PyProof.Rows PySem.Spec PySem L2
variable [Tb]
/-! ### t[::-1], xs[::-1] -/
section
variable {prog : Program} {w : World} {A : Around} {E : Value → Shared → Prop} {s : Shared}
theorem rev_applied {sl : Addr} {vl vu vs : Value} {n : Nat} {Q : Int × Int × Nat → Shared → Prop} (sp : s.heap.IsSliceOf sl vl vu vs) (pl : IsPart vl none) (pu : IsPart vu none) (ps : IsPart vs (some (-1)))
    (h : Q ((n : Int) - 1, -1, n) s) : wpAny (model prog w) A (Builtin.Slice.sliceApplied (.ref sl) (pure (n : Int))) Q E s := by
  obtain ⟨ob, g1, g2, g3⟩ := id sp
  unfold Builtin.Slice.sliceApplied Builtin.Slice.sliceFields
  refine wpAny_bind (wpAny_bind (wpAny_field g1 g3 (x := vl) rfl (wpAny_bind (wpAny_field g1 g3 (x := vu) rfl (wpAny_bind (wpAny_field g1 g3 (x := vs) rfl (wpAny_pure ?_)))))))
  refine wpAny_bind (HT.slicePart_ ps ?_)
  show wpAny _ _ (if ((-1 : Int) == 0) = true then _ else _) _ _ s
  rw [if_neg (by decide)]
  refine wpAny_bind (HT.slicePart_ pl (wpAny_bind (HT.slicePart_ pu (wpAny_bind (wpAny_pure ?_)))))
  show wpAny _ _ (pure ((n : Int) - 1, (-1 : Int), Builtin.Slice.slicePlaces ((n : Int) - 1) (-1) (-1))) _ _ s
  have e : Builtin.Slice.slicePlaces ((n : Int) - 1) (-1) (-1) = n := by
    unfold Builtin.Slice.slicePlaces
    have h1 : ¬ ((-1 : Int) > 0) := by omega
    simp only [h1, if_false]
    split
    · have : ((n : Int) - 1 - -1 - 1) / - -1 = (n : Int) - 1 := by simp
      rw [this]; omega
    · omega
  rw [e]
  exact wpAny_pure h
theorem fm_congr {α β : Type} {f g : α → Option β} : ∀ l : List α, (∀ a ∈ l, f a = g a) → l.filterMap f = l.filterMap g
  | [], _ => rfl
  | a :: l, h => by
    rw [List.filterMap_cons, List.filterMap_cons, h a List.mem_cons_self, fm_congr l fun b hb => h b (List.mem_cons_of_mem _ hb)]
theorem rev_pick (xs : Array Value) : ((List.range xs.size).filterMap fun (m : Nat) => xs[(((xs.size : Int) - 1) + (m : Int) * -1).toNat]?).toArray = xs.toList.reverse.toArray := by
  congr 1
  have e : (List.range xs.size).filterMap (fun (m : Nat) => xs[(((xs.size : Int) - 1) + (m : Int) * -1).toNat]?) = (List.range xs.size).filterMap fun m => xs.toList.reverse[m]? := by
    refine fm_congr _ fun m hm => ?_
    have hm := List.mem_range.mp hm
    have e1 : (((xs.size : Int) - 1) + (m : Int) * -1).toNat = xs.size - 1 - m := by omega
    rw [e1, List.getElem?_reverse (by rw [Array.length_toList]; exact hm), Array.length_toList, Array.getElem?_toList]
  rw [e]
  have gen : ∀ (l : List Value), (List.range l.length).filterMap (fun m => l[m]?) = l := by
    intro l
    induction l with
    | nil => rfl
    | cons a l ih =>
      rw [List.length_cons, List.range_succ_eq_map, List.filterMap_cons]
      simp only [List.getElem?_cons_zero, List.filterMap_map]
      congr 1
  have := gen xs.toList.reverse
  rw [List.length_reverse, Array.length_toList] at this
  exact this
theorem rev_tuple {t sl : Addr} {items : Array Value} {vl vu vs : Value} {Q : Value → Shared → Prop} (tp : IsTup s.heap t items) (sp : s.heap.IsSliceOf sl vl vu vs) (pl : IsPart vl none) (pu : IsPart vu none) (ps : IsPart vs (some (-1)))
    (h : Q (.ref s.heap.objs.size) { s with heap := s.heap.push { cls := .type "tuple", data := .seq items.toList.reverse.toArray } })
    (hsz : items.size ≤ sizeLine) : wpAny (model prog w) A (getItem (.ref t) (.ref sl)) Q E s := by
  have hsize : sizeOk (.seq items.toList.reverse.toArray) := by
    show items.toList.reverse.toArray.size ≤ sizeLine
    rw [List.size_toArray, List.length_reverse, Array.length_toList]; exact hsz
  obtain ⟨ob, g1, g2, g3⟩ := id sp
  have tS : s.TypeIs (.ref sl) "slice" := ⟨ob, g1, g2⟩
  unfold getItem
  try with_reducible refine wpAny_holding ?_
  first | refine wpAny_bind (wpAny_pure ?_) | skip
  refine wpAny_bind (wpAny_sequenceKey tp.typeIs (by decide) ?_)
  refine wpAny_bind (wpAny_callSpecial?_slot (name := Str.ofString "__getitem__") tp.typeIs PyProof.Rows.slot_tuple_getitem
    (wpAny_call_entry PyProof.Rows.slot_tuple_getitem tp.typeIs entry_tuple_getitem ?_ (args_tuple_getitem _ _)))
  show wpAny _ _ (Builtin.Tuple.tupleItemsOf (.ref t) >>= _) _ _ s
  refine wpAny_bind (tupleItemsOf_ tp ?_)
  refine wpAny_bind (wpAny_typeOf tS ?_)
  rw [if_pos (by decide)]
  refine wpAny_bind (rev_applied sp pl pu ps ?_)
  have hno : ¬ ((((items.size : Int) - 1) == 0 && (-1 : Int) == 1 && items.size == items.size) = true) := by
    rw [show ((-1 : Int) == 1) = false from by decide, Bool.and_false, Bool.false_and]; exact Bool.false_ne_true
  show wpAny _ _ (if (((items.size : Int) - 1) == 0 && (-1 : Int) == 1 && items.size == items.size) = true then _ else _) _ _ s
  rw [if_neg hno, rev_pick]
  first
    | exact wpAny_bind (m := Builtin.Tuple.tupleExact _) (wpAny_newObj_type (wpAny_pure ⟨_, rfl, wpAny_pure h⟩) hsize)
    | exact wpAny_bind (m := Builtin.Tuple.tupleExact _) (wpAny_newObj_type (wpAny_bind (wpAny_pure (wpAny_pure ⟨_, rfl, wpAny_pure h⟩))) hsize)
end
section
variable {X : Cx} {e : Expr} {fa : ME} {k : Nat} {p1 p2 p3 pos : Pos}
def tRevT (K : PySem.W.Frag) (te : TE) : TE := fun σ H Q => te σ H fun x H1 => ∃ a xs, x = .ref a ∧ SqT K H1 a xs ∧ ∀ p, H1 p = none → Q (.ref p) (upd H1 p (.tup xs.reverse))
theorem pe_revT {te : TE} (he : PE X e te) : PE X (.Subscript e (.Slice none none (some (.UnaryOp .USub (.Constant (.int 1) k p1) p2)) p3) pos) (tRevT X.K te) := by
  refine ⟨fun pins s σ H Q I h => ?_⟩
  refine Subscript_ (thn (he.run pins s σ H _ I h) fun v u1 ⟨x, G1, J1, r1, q1⟩ => ?_)
  obtain ⟨a, xs, ex, hx, q⟩ := q1
  subst ex
  cases r1
  have hst : PO X (some (.UnaryOp .USub (.Constant (.int 1) k p1) p2)) (tPart (tUn (rU fun i => .int (-i)) (tC (.int 1)))) := po_some (pe_un un_neg pe_int)
  refine wpAny_Slice (thn (po_none.run pins u1 σ G1 (fun o G2 => o = none ∧ G2 = G1) J1 ⟨rfl, rfl⟩) fun wl u2 ⟨l, G2, J2, ql, el, e2⟩ => ?_)
  subst el e2
  refine thn (po_none.run pins u2 σ G2 (fun o G3 => o = none ∧ G3 = G2) J2 ⟨rfl, rfl⟩) fun wu u3 ⟨u, G3, J3, qu, eu, e3⟩ => ?_
  subst eu e3
  refine thn (hst.run pins u3 σ G3 (fun o G4 => o = some (-1) ∧ G4 = G3) J3 ⟨1, rfl, -1, rfl, rfl, rfl⟩) fun ws u4 ⟨o, G4, J4, qs, eo, e4⟩ => ?_
  subst eo e4
  have J5 : Inv X pins σ G4 { u4 with heap := u4.heap.push { cls := .type "slice", data := .fields #[wl, wu, ws] } } := J4.kept (t' := u4.toks) fun b ob q => Heap.get?_push_of_some _ q
  obtain ⟨its, r, ht, hz⟩ := J5.tuple hx
  have hlen := r.length
  show wpAny (model X.prog X.w) X.A (subscriptTail e (.Slice none none (some (.UnaryOp .USub (.Constant (.int 1) k p1) p2)) p3) (.ref a) (.ref u4.heap.objs.size)) (EP X pins σ Q) X.xe { u4 with heap := u4.heap.push { cls := .type "slice", data := .fields #[wl, wu, ws] } }
  refine tail_any (ops := [.ref a, .ref u4.heap.objs.size]) ht.typeIs (PyProof.Rows.slot_tuple_getitem.lookup) ?_ (by with_unfolding_all rfl)
  refine rev_tuple ht (Heap.IsSliceOf.new _ wl wu ws) ql qu qs ?_ (by rw [List.size_toArray]; omega)
  refine ⟨.ref _, _, J5.laid (t' := u4.toks) (o := .tup xs.reverse) (fun b ob q => Heap.get?_push_of_some _ q) (Nat.le_refl _) ?_, rfl, q _ (J5.hok.fresh (Nat.le_refl _))⟩
  exact ⟨by rw [List.length_reverse]; exact hz, _, r.reverse, IsTup.new _ _⟩
/-- x[::-1] of a tuple, a list -/
def eRev (mu : Bool) (f : ME) : ME := fun ρ S => (f ρ S).bind fun (x, S1) => match x with
  | .tup xs => some (.tup xs.reverse, S1)
  | x => (readOf S1 x).bind fun xs => newL mu xs.reverse S1
theorem e_rev (mu : Bool) (h : EvE X e fa) : EvE X (.Subscript e (.Slice none none (some (.UnaryOp .USub (.Constant (.int 1) k p1) p2)) p3) pos) (eRev mu fa) := ⟨fun pins s σ H Q I hh => by
  obtain ⟨W, ρ, d, S', rfl, ok, hρ, he, q⟩ := hh
  unfold eRev at he
  rw [Option.bind_eq_some_iff] at he
  obtain ⟨⟨x, S1⟩, e1, he⟩ := he
  dsimp only at he
  split at he
  · rename_i xs
    cases he
    refine (pe_revT h).run pins s σ W.H Q I ⟨W, ρ, .tup xs, _, rfl, ok, hρ, e1, fun W' v st r => ?_⟩
    obtain ⟨a, vs, rfl, h1, h2⟩ := r
    have q' := q.step st
    have es := st.st
    subst es
    exact ⟨a, vs, rfl, h1, fun p hp => newT_ok st.ok h2.reverse hp q'⟩
  · rw [Option.bind_eq_some_iff] at he
    obtain ⟨xs, e2, he⟩ := he
    refine (pe_revL h).run pins s σ W.H Q I ⟨W, ρ, x, S1, rfl, ok, hρ, e1, fun W' v st r => ?_⟩
    have es := st.st
    subst es
    obtain ⟨a, vs, rfl, h1, h2⟩ := readOf_ok st.ok e2 r
    exact ⟨a, vs, rfl, h1, fun p hp => newL_ok he st.ok h2.reverse hp (q.step st)⟩⟩
@[simp] theorem eRev_r {mu : Bool} {ρ : EnvD} {S : Store} : eRev mu fa ρ S = (fa ρ S).bind fun p => match p.1 with
  | .tup xs => some (.tup xs.reverse, p.2)
  | x => (readOf p.2 x).bind fun xs => newL mu xs.reverse p.2 := (rfl)
end
end Ev
end L2

namespace L2
namespace Ev
open PyProof.Rows PySem.Spec PySem L2
variable [Tb]
/-! ### walks by pairs: enumerate, zip, items -/
/-- a turn that gives new tuples, by the library's walk -/
theorem turn_T {P : Program} {w : World} {K : PySem.W.Frag} {elts : List Expr} {kk : Nat} {tpos : Pos} {J : It} {fp : List Addr} {it : Addr} {tn : Nat → Heap → Prop} (mem : it ∈ fp)
    (obj : ∀ i h, tn i h → ∀ b ∈ fp, ∃ o, h.get? b = some o ∧ ∀ v, o.data ≠ .cell v)
    (keep : ∀ i h h', tn i h → (∀ b ∈ fp, ∀ o, h.get? b = some o → h'.get? b = some o) → tn i h')
    (step : ∀ (X : Cx), X.prog = P → X.w = w → X.K = K → X.calm = true → ∀ (i : Nat) (pins : List (Addr × Obj)) (s : Shared) (σ : St) (H : Hp), Inv X pins σ H s → (∀ b ∈ fp, FpOk X pins H b) → tn i s.heap → J.go i H →
      ∃ fp' wr n Pt St Mid, WalksT P w X.A it fp' wr n Pt St Mid ∧ (∀ b ∈ wr, b ∈ fp) ∧ i < n ∧ St i s.heap ∧ (∀ h', St (i + 1) h' → tn (i + 1) h') ∧
        ∀ vals, Pt i vals → ∃ vs, Vals vs vals.toList ∧ vs.length ≤ sizeLine ∧ ∀ T, H T = none → J.yld i H (.ref T) (upd H T (.tup vs)))
    (stop : ∀ (X : Cx), X.prog = P → X.w = w → X.K = K → X.calm = true → ∀ (i : Nat) (pins : List (Addr × Obj)) (s : Shared) (σ : St) (H : Hp), Inv X pins σ H s → (∀ b ∈ fp, FpOk X pins H b) → tn i s.heap → J.stop i H →
      ∃ fp' wr n Pt St Mid, WalksT P w X.A it fp' wr n Pt St Mid ∧ (∀ b ∈ wr, b ∈ fp) ∧ St n s.heap)
    (self : ∀ (A : Around) (i : Nat) (s : Shared) (Q : Value → Shared → Prop) (E : Value → Shared → Prop), tn i s.heap → Q (.ref it) s → wpAny (model P w) A (pyIter (.ref it)) Q E s) :
    L2.Turn P w K (.Tuple elts kk tpos) J fp it tn where
  mem := mem
  obj := obj
  keep := keep
  item := by
    intro X hP hw hK hc i pins s σ H E I hf st hg
    obtain ⟨fp', wr, n, Pt, St, Mid, Wk, hwr, hi, hst, hnext, hv⟩ := step X hP hw hK hc i pins s σ H I hf st hg
    subst hP hw hK
    refine Wk.item i s _ E hi hst fun T vals h' tk hp hT ht hm hk => ?_
    refine ⟨_, rfl, Wk.go elts kk tpos i T { s with heap := h', toks := tk } _ E hm fun h'' hst' hk2 => ?_⟩
    obtain ⟨vs, rv, hl, hy⟩ := hv vals hp
    obtain ⟨l, rfl⟩ : ∃ l : List Value, vals = l.toArray := ⟨vals.toList, by simp⟩
    obtain ⟨o, ho, hr⟩ := ht
    have hT2 : h''.get? T = some o := hk2 T o (Wk.apart i T h' hm) ho
    have new : ObjOk X.prog X.w (upd H T (.tup vs)) h'' T (.tup vs) := ⟨hl, l, rv, ⟨o, hT2, hr⟩⟩
    have I1 : Inv X pins σ (upd H T (.tup vs)) { s with heap := h'', toks := tk } :=
      I.turnedNew (ch := wr) (fun b o hb q => hk2 b o hb (hk b o hb q)) (fun b hb => hf b (hwr b hb)) hT new
    refine ⟨.ref T, _, I1, rfl, hy T (I.hok.fresh hT), hnext h'' hst', fun b hb => ?_⟩
    obtain ⟨ob, hob, _⟩ := obj i s.heap st b hb
    have : b < s.heap.objs.size := Heap.lt_size hob
    rw [upd_ne (Nat.ne_of_lt (Nat.lt_of_lt_of_le this hT))]
    exact (hf b hb).1
  done := by
    intro X hP hw hK hc i pins s σ H E I hf st hg
    obtain ⟨fp', wr, n, Pt, St, Mid, Wk, hwr, hst⟩ := stop X hP hw hK hc i pins s σ H I hf st hg
    subst hP hw hK
    exact Wk.done s _ E hst fun h' tk hk => ⟨rfl, I.turnedL (t' := tk) (ch := wr) hk fun b hb => hf b (hwr b hb)⟩
  self := self
/-! the two kinds of sequences -/
def SqB (t : Bool) (K : PySem.W.Frag) (a : Addr) (xs : List V) (H : Hp) : Prop := match t with
  | true => SqT K H a xs
  | false => SqL K H a xs
def IsB (t : Bool) (a : Addr) (its : Array Value) (h : Heap) : Prop := match t with
  | true => h.IsTuple a its
  | false => h.IsList a its
def ItB (t : Bool) (it a : Addr) (i : Nat) (h : Heap) : Prop := match t with
  | true => h.IsTupleIter it a i
  | false => h.IsListIter it a i
def obB (t : Bool) (a : Addr) : Obj := match t with
  | true => { cls := .type "tuple_iterator", data := .fields #[.ref a, .int 0 0] }
  | false => { cls := .type "list_iterator", data := .fields #[.ref a, .int 0 0] }
section
variable {X : Cx} {pins : List (Addr × Obj)} {σ : St} {H : Hp} {s : Shared} {t : Bool} {K : PySem.W.Frag} {a it : Addr} {xs ys : List V} {h h' : Heap}
theorem sqB_open (I : Inv X pins σ H s) (q : SqB t X.K a xs H) : ∃ its : List Value, Vals xs its ∧ IsB t a its.toArray s.heap ∧ xs.length ≤ sizeLine := by
  cases t with
  | true => obtain ⟨its, r, p, z⟩ := I.tuple q; exact ⟨its, r, p, z⟩
  | false => obtain ⟨its, r, p, z⟩ := I.list q; exact ⟨its, r, p.isList, z⟩
theorem sqB_inj (I : Inv X pins σ H s) (q : SqB t X.K a xs H) (q2 : SqB t X.K a ys H) : xs = ys := by
  cases t with
  | true => exact I.tuple_inj q q2
  | false => exact I.list_inj q q2
theorem begB (its : Array Value) : Begins (.ref a) (obB t a) (IsB t a its) := by
  cases t with
  | true => exact begins_tuple a its
  | false => exact begins_list a its
theorem drawB {prog : Program} {w : World} {A : Around} (hh : A.handled = none) (hne : a ≠ it) (its : Array Value) : Draws prog w A it [it, a] its.size (fun i v => its[i]? = some v) (fun i h => ItB t it a i h ∧ IsB t a its h) := by
  cases t with
  | true => exact Draws.tuple hh it a hne its
  | false => exact Draws.list hh it a hne its
theorem itB_new (g : h.get? it = some (obB t a)) : ItB t it a 0 h := by
  cases t with
  | true => exact ⟨_, g, rfl, rfl⟩
  | false => exact ⟨_, g, rfl, rfl⟩
theorem itB_keep {i : Nat} (g : ItB t it a i h) (k : ∀ o, h.get? it = some o → h'.get? it = some o) : ItB t it a i h' := by
  cases t with
  | true => obtain ⟨o, e, r⟩ := g; exact ⟨o, k o e, r⟩
  | false => obtain ⟨o, e, r⟩ := g; exact ⟨o, k o e, r⟩
theorem itB_obj {i : Nat} (g : ItB t it a i h) : ∃ o, h.get? it = some o ∧ ∀ v, o.data ≠ .cell v := by
  cases t with
  | true => obtain ⟨o, e, _, d⟩ := g; exact ⟨o, e, fun v z => by rw [d] at z; cases z⟩
  | false => obtain ⟨o, e, _, d⟩ := g; exact ⟨o, e, fun v z => by rw [d] at z; cases z⟩
theorem isB_lt {its : Array Value} (g : IsB t a its h) : a < h.objs.size := by
  cases t with
  | true => obtain ⟨o, e, _⟩ := g; exact Heap.lt_size e
  | false => obtain ⟨o, e, _⟩ := g; exact Heap.lt_size e
theorem in1_hd {A : Around} (h : A.handled = none) : A.in1.handled = none := h
end
/-- the sequence at a as it stands at each turn, each item in a new pair -/
def ItE (t : Bool) (K : PySem.W.Frag) (a : Addr) : It :=
  ⟨fun i H => ∃ xs x, SqB t K a xs H ∧ xs[i]? = some x, fun i H v H' => ∃ T x, v = .ref T ∧ H T = none ∧ H' = upd H T (.tup [.int (i : Nat), x]) ∧ ∀ xs, SqB t K a xs H → xs[i]? = some x, fun i H => ∃ xs, SqB t K a xs H ∧ xs.length = i⟩
theorem ne_of_fp {X : Cx} {pins : List (Addr × Obj)} {σ : St} {H : Hp} {s : Shared} {t : Bool} {a it : Addr} {xs : List V} (I : Inv X pins σ H s) (q : SqB t X.K a xs H) (f : FpOk X pins H it) {i : Nat} (g : ItB t it a i s.heap) {its : Array Value} (p : IsB t a its s.heap) : a ≠ it := by
  rintro rfl
  cases t with
  | true =>
    obtain ⟨o, e, c, d⟩ := g
    obtain ⟨o', e', c', _⟩ := p
    rw [e] at e'; cases e'; rw [c] at c'; simp at c'
  | false =>
    obtain ⟨o, e, c, d⟩ := g
    obtain ⟨o', e', c', _⟩ := p
    rw [e] at e'; cases e'; rw [c] at c'; simp at c'
theorem turn_enumB {P : Program} {w : World} {K : PySem.W.Frag} {elts : List Expr} {kk : Nat} {tpos : Pos} (t : Bool) (a e it : Addr) (hne : e ≠ it) :
    L2.Turn P w K (.Tuple elts kk tpos) (ItE t K a) [e, it] e (fun i h => (∃ old, IsEnum h e it ((i : Nat) : Int) old) ∧ ItB t it a i h) := by
  have elt : ∀ {i : Nat} {h : Heap} {old : Value}, IsEnum h e it ((i : Nat) : Int) old → IsEnum h e it (0 + (i : Int)) old := fun q => by rw [Int.zero_add]; exact q
  have ea : ∀ {X : Cx} {pins : List (Addr × Obj)} {σ : St} {H : Hp} {s : Shared} {xs : List V} {its : Array Value} {i : Nat}, Inv X pins σ H s → (∃ old, IsEnum s.heap e it ((i : Nat) : Int) old) → IsB t a its s.heap → e ≠ a := by
    intro X pins σ H s xs its i I ⟨old, he⟩ p z
    subst z
    cases t with
    | true => obtain ⟨o, e1, c, _⟩ := p; rw [he] at e1; cases e1; simp at c
    | false => obtain ⟨o, e1, c, _⟩ := p; rw [he] at e1; cases e1; simp at c
  refine turn_T (by simp) ?_ ?_ ?_ ?_ ?_
  · intro i h ⟨⟨old, he⟩, hit⟩ b hb
    have e' : b = e ∨ b = it := by simpa using hb
    rcases e' with z | z
    · rw [z]; exact ⟨_, he, fun v q => nomatch q⟩
    · rw [z]; exact itB_obj hit
  · intro i h h' ⟨⟨old, he⟩, hit⟩ k
    exact ⟨⟨old, k e (by simp) _ he⟩, itB_keep hit fun o q => k it (by simp) o q⟩
  · intro X hP hw hK hc i pins s σ H I hf ⟨he, hit⟩ ⟨xs, x, hq, hx⟩
    subst hP hw hK
    obtain ⟨its, rv, p, hz⟩ := sqB_open I hq
    have h1 := ne_of_fp I hq (hf it (by simp)) hit p
    have h2 := ea (xs := xs) I he p
    have hl := rv.length
    refine ⟨_, _, _, _, _, _, WalksT.enumFrom 0 (drawB (t := t) (a := a) (it := it) (in1_hd (I.ok.hd hc)) h1 its.toArray) e hne (by simp [hne, h2]) (by simp), by simp, ?_, ?_, ?_, ?_⟩
    · have := (List.getElem?_eq_some_iff.mp hx).1
      simp; omega
    · obtain ⟨old, he⟩ := he
      exact ⟨⟨old, elt he⟩, hit, p⟩
    · rintro h' ⟨⟨old, q1⟩, q2, _⟩
      exact ⟨⟨old, by rw [Int.zero_add] at q1; exact q1⟩, q2⟩
    · rintro vals ⟨tk, u, hu, rfl⟩
      obtain ⟨u', hu', ru⟩ := rv.get hx
      have hu : its[i]? = some u := by simpa using hu
      rw [hu'] at hu; cases hu
      refine ⟨[.int (i : Nat), x], .cons ⟨tk, by rw [Int.zero_add]⟩ (.cons ru .nil), by show 2 ≤ sizeLine; decide, fun T hT => ⟨T, x, rfl, hT, rfl, fun ys hy => ?_⟩⟩
      rw [sqB_inj I hy hq]; exact hx
  · intro X hP hw hK hc i pins s σ H I hf ⟨he, hit⟩ ⟨xs, hq, hx⟩
    subst hP hw hK
    obtain ⟨its, rv, p, hz⟩ := sqB_open I hq
    have h1 := ne_of_fp I hq (hf it (by simp)) hit p
    have h2 := ea (xs := xs) I he p
    have hl := rv.length
    have hi : its.toArray.size = i := by simp; omega
    refine ⟨_, _, _, _, _, _, WalksT.enumFrom 0 (drawB (t := t) (a := a) (it := it) (in1_hd (I.ok.hd hc)) h1 its.toArray) e hne (by simp [hne, h2]) (by simp), by simp, ?_⟩
    obtain ⟨old, he⟩ := he
    rw [hi]
    exact ⟨⟨old, elt he⟩, hit, p⟩
  · intro A i s Q E ⟨⟨old, he⟩, _⟩ hQ
    exact wpAny_pyIter_enum he hQ
/-! enumerate of a list, a tuple: begun -/
set_option maxHeartbeats 4000000 in
theorem meets_enum1 {v : Value} {o : Obj} {H : Heap → Prop} (B : Begins v o H) :
    Meets (Builtin.«enumerate.__new__» ⟨[.type "enumerate", v], []⟩) (fun _ R s => H s.heap ∧
      R (.ok (.ret (.ref (s.heap.push o).objs.size))) { s with heap := (s.heap.push o).push { cls := .type "enumerate", data := .fields #[.none, .bool false, .ref s.heap.objs.size, rawInt 0, .none, .none] } }) :=
  .of_wp fun prog w A R s h => by
    obtain ⟨hp, g, d, tk, os⟩ := s; obtain ⟨h1, h⟩ := h
    have hsub := sub_enumerate
    have q1 : ∀ {A' : Around} {E : Value → Shared → Prop} {Q : Value → Shared → Prop}, Q (.ref hp.objs.size) ⟨hp.push o, g, d, tk, os⟩ → wpAny (model prog w) A' (pyIter v) Q E ⟨hp, g, d, tk, os⟩ :=
      fun q => B.iter prog w _ _ ⟨hp, g, d, tk, os⟩ _ h1 q
    wp_walk using q1
    refine wpAny_stack_any fun st => wpAny_pure ?_
    split
    · rename_i c _ _ _ _ _
      cases (c == Value.type "enumerate")
      · wp_walk using q1
        exact ⟨_, rfl, h⟩
      · wp_walk using q1
        exact ⟨_, rfl, h⟩
    · wp_walk using q1
      exact ⟨_, rfl, h⟩
theorem enum_begin1 {prog : Program} {w : World} {A : Around} {E : Value → Shared → Prop} {s : Shared} {v : Value} {o : Obj} {H : Heap → Prop} {Q : Value → Shared → Prop} (B : Begins v o H) (h1 : H s.heap)
    (h : ∀ h', IsEnum h' (s.heap.objs.size + 1) s.heap.objs.size 0 .none → h'.get? s.heap.objs.size = some o → h'.objs.size = s.heap.objs.size + 2 →
      (∀ b o, s.heap.get? b = some o → h'.get? b = some o) → Q (.ref (s.heap.objs.size + 1)) { s with heap := h' }) :
    wpAny (model prog w) A (call (.type "enumerate") [v]) Q E s := by
  refine callType_new F.called_enumerate (by decide) (F.typeCall_enumerate_1 _) (F.newCall_enumerate_1 _) (fun obj => F.args_object_init_2 obj _) F.entry_enumerate_new
    (meets_enum1 B) ⟨h1, ?_⟩
  have hz : (s.heap.push o).objs.size = s.heap.objs.size + 1 := Heap.size_push ..
  show _ ∧ _
  rw [hz]
  have he : IsEnum ((s.heap.push o).push { cls := .type "enumerate", data := .fields #[.none, .bool false, .ref s.heap.objs.size, rawInt 0, .none, .none] }) (s.heap.objs.size + 1) s.heap.objs.size 0 .none := by
    have := Heap.get?_push_size (s.heap.push o) (o := { cls := .type "enumerate", data := .fields #[.none, .bool false, .ref s.heap.objs.size, rawInt 0, .none, .none] }) rfl
    rw [hz] at this; exact this
  refine ⟨⟨_, he, rfl⟩, h _ he (Heap.get?_push_of_some _ (Heap.get?_push_size _ B.free)) (by rw [Heap.size_push, hz]) fun b o x => Heap.get?_push_of_some _ (Heap.get?_push_of_some _ x)⟩
def iEnumB (K : PySem.W.Frag) (ta : TA) : TI := fun σ H R => ta σ H fun vs H1 => ∃ t a xs, vs = [.ref a] ∧ SqB t K a xs H1 ∧ R (ItE t K a) H1
theorem pi_enumB {X : Cx} {e : Expr} {ta : TA} {p pos tpos : Pos} {elts : List Expr} {kk : Nat} (hg : Gl X "enumerate") (hm : X.mg "enumerate" = none) (ha : PA X [e] ta) (hs : starEach [e] X.env = [(false, eval e X.env)] := by rfl) :
    PI X (.Tuple elts kk tpos) (.Call (.Name "enumerate" p) [e] [] pos) (iEnumB X.K ta) := by
  refine ⟨fun pins s σ H R I h => ?_⟩
  refine Call_ (ld_blt I hg hm boot_enumerate (PyProof.Rows.callWith_type1 (thn (ha.run pos pins s σ H _ I h) fun us s1 ⟨vs, H1, I1, r1, q1⟩ => ?_) hs rfl))
  obtain ⟨t, a, xs, ex, hq, q⟩ := q1
  subst ex
  cases r1 with
  | cons r rr =>
    cases rr
    cases r
    obtain ⟨its, rv, p', hz⟩ := sqB_open I1 hq
    refine enum_begin1 (begB its.toArray) p' fun h' he hit hsz hk => wpAny_pyIter_enum he ?_
    have I2 : Inv X pins σ H1 { s1 with heap := h' } := I1.kept (t' := s1.toks) hk
    refine ⟨s1.heap.objs.size + 1, [s1.heap.objs.size + 1, s1.heap.objs.size], _, _, H1, rfl, I2, turn_enumB t a (s1.heap.objs.size + 1) s1.heap.objs.size (Nat.succ_ne_self _), ⟨⟨.none, he⟩, itB_new hit⟩, fun b hb => ?_, q⟩
    have e' : b = s1.heap.objs.size + 1 ∨ b = s1.heap.objs.size := by simpa using hb
    have hle : s1.heap.objs.size ≤ b := by
      rcases e' with z | z
      · rw [z]; exact Nat.le_add_right _ _
      · rw [z]; exact Nat.le_refl _
    exact I1.fpOk hle (I1.hok.fresh hle)
/-! zip of two, lists or tuples -/
def ItZ (t u : Bool) (K : PySem.W.Frag) (a b : Addr) : It :=
  ⟨fun i H => ∃ xs ys x y, SqB t K a xs H ∧ SqB u K b ys H ∧ xs[i]? = some x ∧ ys[i]? = some y,
   fun i H v H' => ∃ T x y, v = .ref T ∧ H T = none ∧ H' = upd H T (.tup [x, y]) ∧ (∀ xs, SqB t K a xs H → xs[i]? = some x) ∧ ∀ ys, SqB u K b ys H → ys[i]? = some y,
   fun i H => ∃ xs ys, SqB t K a xs H ∧ SqB u K b ys H ∧ min xs.length ys.length = i⟩
theorem turn_zipB {P : Program} {w : World} {K : PySem.W.Frag} {elts : List Expr} {kk : Nat} {tpos : Pos} (t u : Bool) (a b z TI TO i1 i2 : Addr) (hd : [z, TI, TO, i1, i2].Nodup) (ha : a ∉ [z, TI, TO, i1, i2]) (hb : b ∉ [z, TI, TO, i1, i2]) :
    L2.Turn P w K (.Tuple elts kk tpos) (ItZ t u K a b) [z, TI, TO, i1, i2] z (fun i h => IsZip h z TI TO .none ∧ IsTupOf2 h TI (.ref i1) (.ref i2) ∧ (∃ a1 a2, IsTupOf2 h TO a1 a2) ∧ ItB t i1 a i h ∧ ItB u i2 b i h) := by
  simp only [List.nodup_cons, List.mem_cons, List.not_mem_nil, or_false, not_or] at hd ha hb
  have D : ZipSep2 z TI TO i1 i2 [i1, a] [i2, b] := by
    constructor <;> simp <;> grind
  refine turn_T (by simp) ?_ ?_ ?_ ?_ ?_
  · intro i h ⟨hz, h1, ⟨a1, a2, h2⟩, h3, h4⟩ c hc
    have e' : c = z ∨ c = TI ∨ c = TO ∨ c = i1 ∨ c = i2 := by simpa using hc
    rcases e' with q | q | q | q | q
    · rw [q]; exact ⟨_, hz, fun v q => nomatch q⟩
    · rw [q]; exact ⟨_, h1, fun v q => nomatch q⟩
    · rw [q]; exact ⟨_, h2, fun v q => nomatch q⟩
    · rw [q]; exact itB_obj h3
    · rw [q]; exact itB_obj h4
  · intro i h h' ⟨hz, h1, ⟨a1, a2, h2⟩, h3, h4⟩ k
    exact ⟨k z (by simp) _ hz, k TI (by simp) _ h1, ⟨a1, a2, k TO (by simp) _ h2⟩, itB_keep h3 fun o q => k i1 (by simp) o q, itB_keep h4 fun o q => k i2 (by simp) o q⟩
  · intro X hP hw hK hc i pins s σ H I hf ⟨hz, h1, h2, h3, h4⟩ ⟨xs, ys, x, y, hq, hq2, hx, hy⟩
    subst hP hw hK
    obtain ⟨its, rv, p, _⟩ := sqB_open I hq
    obtain ⟨its2, rv2, p2, _⟩ := sqB_open I hq2
    have n1 := ne_of_fp I hq (hf i1 (by simp)) h3 p
    have n2 := ne_of_fp I hq2 (hf i2 (by simp)) h4 p2
    have hl := rv.length
    have hl2 := rv2.length
    refine ⟨_, _, _, _, _, _, WalksT.zipD2 D (drawB (t := t) (a := a) (it := i1) (in1_hd (I.ok.hd hc)) n1 its.toArray) (drawB (t := u) (a := b) (it := i2) (in1_hd (I.ok.hd hc)) n2 its2.toArray), by simp, ?_, ⟨hz, h1, h2, ⟨h3, p⟩, h4, p2⟩, ?_, ?_⟩
    · have := (List.getElem?_eq_some_iff.mp hx).1
      have := (List.getElem?_eq_some_iff.mp hy).1
      simp; omega
    · rintro h' ⟨g1, g2, g3, ⟨g4, _⟩, g5, _⟩
      exact ⟨g1, g2, g3, g4, g5⟩
    · rintro vals ⟨u1, u2, hu1, hu2, rfl⟩
      obtain ⟨u1', hu1', ru1⟩ := rv.get hx
      obtain ⟨u2', hu2', ru2⟩ := rv2.get hy
      have hu1 : its[i]? = some u1 := by simpa using hu1
      have hu2 : its2[i]? = some u2 := by simpa using hu2
      rw [hu1'] at hu1; cases hu1
      rw [hu2'] at hu2; cases hu2
      refine ⟨[x, y], .cons ru1 (.cons ru2 .nil), by show 2 ≤ sizeLine; decide, fun T hT => ⟨T, x, y, rfl, hT, rfl, fun zs hz => ?_, fun zs hz => ?_⟩⟩
      · rw [sqB_inj I hz hq]; exact hx
      · rw [sqB_inj I hz hq2]; exact hy
  · intro X hP hw hK hc i pins s σ H I hf ⟨hz, h1, h2, h3, h4⟩ ⟨xs, ys, hq, hq2, hx⟩
    subst hP hw hK
    obtain ⟨its, rv, p, _⟩ := sqB_open I hq
    obtain ⟨its2, rv2, p2, _⟩ := sqB_open I hq2
    have n1 := ne_of_fp I hq (hf i1 (by simp)) h3 p
    have n2 := ne_of_fp I hq2 (hf i2 (by simp)) h4 p2
    have hl := rv.length
    have hl2 := rv2.length
    have hi : min its.toArray.size its2.toArray.size = i := by simp; omega
    refine ⟨_, _, _, _, _, _, WalksT.zipD2 D (drawB (t := t) (a := a) (it := i1) (in1_hd (I.ok.hd hc)) n1 its.toArray) (drawB (t := u) (a := b) (it := i2) (in1_hd (I.ok.hd hc)) n2 its2.toArray), by simp, ?_⟩
    rw [hi]
    exact ⟨hz, h1, h2, ⟨h3, p⟩, h4, p2⟩
  · intro A i s Q E ⟨hz, _⟩ hQ
    exact wpAny_pyIter_zip hz hQ
theorem out5 (N c : Nat) (h : c < N) : c ∉ [N + 4, N + 2, N + 3, N, N + 1] := by simp; omega
theorem nod5 (N : Nat) : [N + 4, N + 2, N + 3, N, N + 1].Nodup := by simp
theorem le5 (N c : Nat) (h : c = N + 4 ∨ c = N + 2 ∨ c = N + 3 ∨ c = N ∨ c = N + 1) : N ≤ c := by omega
def iZipB (K : PySem.W.Frag) (ta : TA) : TI := fun σ H R => ta σ H fun vs H1 => ∃ t u a b xs ys, vs = [.ref a, .ref b] ∧ SqB t K a xs H1 ∧ SqB u K b ys H1 ∧ R (ItZ t u K a b) H1
theorem pi_zipB {X : Cx} {e e2 : Expr} {ta : TA} {p pos tpos : Pos} {elts : List Expr} {kk : Nat} (hg : Gl X "zip") (hm : X.mg "zip" = none) (ha : PA X [e, e2] ta)
    (hs : starEach [e, e2] X.env = (false, eval e X.env) :: starEach [e2] X.env := by rfl) (hpl : (backTo pos (starEach [e2] X.env)).any (·.1) = false := by rfl) :
    PI X (.Tuple elts kk tpos) (.Call (.Name "zip" p) [e, e2] [] pos) (iZipB X.K ta) := by
  refine ⟨fun pins s σ H R I h => ?_⟩
  refine Call_ (ld_blt I hg hm PyProof.Rows.boot_zip (PyProof.Rows.callWith_type1 (thn (ha.run pos pins s σ H _ I h) fun us s1 ⟨vs, H1, I1, r1, q1⟩ => ?_) hs hpl))
  obtain ⟨t, u, a, b, xs, ys, ex, hq, hq2, q⟩ := q1
  subst ex
  cases r1 with
  | cons r rr =>
    cases rr with
    | cons r' rr =>
      cases rr
      cases r
      cases r'
      obtain ⟨its, rv, p1, _⟩ := sqB_open I1 hq
      obtain ⟨its2, rv2, p2, _⟩ := sqB_open I1 hq2
      refine zip_begins2 (begB its.toArray) (begB its2.toArray) p1 p2 fun h' hz hTI hTO h1 h2 hsz hk => wpAny_pyIter_zip hz ?_
      have I2 : Inv X pins σ H1 { s1 with heap := h' } := I1.kept (t' := s1.toks) hk
      have la := isB_lt p1
      have lb := isB_lt p2
      refine ⟨s1.heap.objs.size + 4, [s1.heap.objs.size + 4, s1.heap.objs.size + 2, s1.heap.objs.size + 3, s1.heap.objs.size, s1.heap.objs.size + 1], _, _, H1, rfl, I2, turn_zipB t u a b _ _ _ _ _ (nod5 _) (out5 _ _ la) (out5 _ _ lb), ⟨hz, hTI, ⟨_, _, hTO⟩, itB_new h1, itB_new h2⟩, fun c hcm => ?_, q⟩
      have e' : c = s1.heap.objs.size + 4 ∨ c = s1.heap.objs.size + 2 ∨ c = s1.heap.objs.size + 3 ∨ c = s1.heap.objs.size ∨ c = s1.heap.objs.size + 1 := by simpa using hcm
      have hle : s1.heap.objs.size ≤ c := le5 _ _ e'
      exact I1.fpOk hle (I1.hok.fresh hle)
/-! ### as meanings -/
/-- what is walked of a value: a tuple, a list -/
def sqOf (S : Store) : D → Option (List D × (Store → Bool))
  | .tup xs => some (xs, gYes)
  | x => (readOf S x).map fun xs => (xs, gOf x xs)
theorem sqOf_ok {m : Md} {W : Wd} {x : D} {xs : List D} {g : Store → Bool} {v : V} (h : sqOf W.S x = some (xs, g)) (ok : Ok m W) (r : Rp m.K W x v) :
    ∃ t a vs, v = .ref a ∧ SqB t m.K a vs W.H ∧ Rps m.K W xs vs ∧ ∀ W1, Ext m.K W W1 → Ok m W1 → g W1.S = true → ∃ us, SqB t m.K a us W1.H ∧ Rps m.K W1 xs us := by
  by_cases hx : ∃ ys, x = .tup ys
  · obtain ⟨ys, rfl⟩ := hx
    cases h
    obtain ⟨a, vs, rfl, h1, h2⟩ := id r
    refine ⟨true, a, vs, rfl, h1, h2, fun W1 e ok1 _ => ?_⟩
    obtain ⟨a', vs', ea, h3, h4⟩ := e _ _ r
    cases ea
    exact ⟨vs', h3, h4⟩
  · have h' : (readOf W.S x).map (fun xs => (xs, gOf x xs)) = some (xs, g) := by
      cases x <;> first | exact h | exact absurd ⟨_, rfl⟩ hx
    simp only [Option.map_eq_some_iff, Prod.mk.injEq] at h'
    obtain ⟨zs, e2, rfl, rfl⟩ := h'
    obtain ⟨a, vs, rfl, h1, h2⟩ := readOf_ok ok e2 r
    refine ⟨false, a, vs, rfl, h1, h2, fun W1 e ok1 g1 => ?_⟩
    obtain ⟨a', vs', ea, h3, h4⟩ := readOf_later e2 (e _ _ r) ok1 g1
    cases ea
    exact ⟨vs', h3, h4⟩
def enumD (i : Nat) : List D → List D
  | [] => []
  | x :: r => .tup [.int i, x] :: enumD (i + 1) r
theorem enumD_get : ∀ (xs : List D) (k i : Nat), (enumD k xs)[i]? = (xs[i]?).map fun x => D.tup [.int ((k + i : Nat) : Int), x]
  | [], _, _ => by simp [enumD]
  | x :: r, k, 0 => by simp [enumD]
  | x :: r, k, i + 1 => by
    rw [enumD, List.getElem?_cons_succ, List.getElem?_cons_succ, enumD_get r (k + 1) i, show k + 1 + i = k + (i + 1) by omega]
theorem enumD_len : ∀ (xs : List D) (k : Nat), (enumD k xs).length = xs.length
  | [], _ => rfl
  | _ :: r, k => by rw [enumD, List.length_cons, List.length_cons, enumD_len r]
def zipPair (x y : D) : D := .tup [x, y]
/-- a new tuple of things that stand -/
theorem newTup_ok {m : Md} {W1 : Wd} {xs : List D} {vs : List V} {T : Addr} (ok : Ok m W1) (r : Rps m.K W1 xs vs) (hT : W1.H T = none) : ∃ W2 : Wd, W2.H = upd W1.H T (.tup vs) ∧ Stp m W1 W1.S W2 ∧ Rp m.K W2 (.tup xs) (.ref T) := by
  have st := Step.new ok hT (.tup vs)
  exact ⟨_, rfl, st, T, vs, rfl, .inl (.inl upd_same), st.ext.rps r⟩
section
variable {X : Cx} {a b : Expr} {fs : MA} {pos p tpos : Pos} {elts : List Expr} {kk : Nat}
def enumW (xs : List D) (S : Store) : Option ((List D × (Store → Bool)) × Store) := match xs with
  | [x] => (sqOf S x).map fun q => ((enumD 0 q.1, q.2), S)
  | _ => none
def iEnumD (f : MA) : MI := fun ρ S => (f ρ S).bind fun p => enumW p.1 p.2
theorem i_enum (hm : X.mg "enumerate" = none) (h : EvA X [a] fs) (hg : Gl X "enumerate" := by rfl) (hs : starEach [a] X.env = [(false, eval a X.env)] := by rfl) :
    EvI X (.Tuple elts kk tpos) (.Call (.Name "enumerate" p) [a] [] pos) (iEnumD fs) := PI.imp (pi_enumB hg hm h hs) fun σ H R => by
  rintro ⟨W, ρ, ds, g, S', rfl, ok, hρ, he, q⟩
  unfold iEnumD at he
  rw [Option.bind_eq_some_iff] at he
  obtain ⟨⟨xs, S1⟩, e1, he⟩ := he
  dsimp only [enumW] at he
  split at he
  · rename_i x
    simp only [Option.map_eq_some_iff, Prod.mk.injEq] at he
    obtain ⟨⟨zs, gd⟩, e2, ⟨rfl, rfl⟩, rfl⟩ := he
    refine ⟨W, ρ, [x], S1, rfl, ok, hρ, e1, fun W' vs st r => ?_⟩
    obtain ⟨v, rfl, r1⟩ := rps_one r
    obtain ⟨t, ad, us, rfl, h1, h2, later⟩ := sqOf_ok (by rw [st.st]; exact e2) st.ok r1
    refine ⟨t, ad, us, rfl, h1, q W' _ st ⟨fun W1 i d e3 _ ok1 g1 hd => ?_, fun W1 e3 _ ok1 g1 => ?_⟩⟩
    · obtain ⟨us1, h3, h4⟩ := later W1 e3 ok1 g1
      rw [enumD_get] at hd
      simp only [Option.map_eq_some_iff] at hd
      obtain ⟨y, hy, rfl⟩ := hd
      obtain ⟨vy, h5, h6⟩ := h4.get hy
      refine ⟨⟨us1, vy, h3, h5⟩, fun z H' hz => ?_⟩
      obtain ⟨T, y', rfl, hT, rfl, hall⟩ := hz
      have := hall us1 h3
      rw [h5] at this; cases this
      rw [Nat.zero_add]
      exact newTup_ok ok1 ⟨_, _, rfl, rfl, _, _, rfl, h6, rfl⟩ hT
    · obtain ⟨us1, h3, h4⟩ := later W1 e3 ok1 g1
      exact ⟨us1, h3, by rw [enumD_len, h4.length]⟩
  · cases he
def gAnd (a b : Store → Bool) : Store → Bool := fun S => a S && b S
@[simp] theorem gAnd_yes : gAnd gYes gYes = gYes := rfl
def zipW (xs : List D) (S : Store) : Option ((List D × (Store → Bool)) × Store) := match xs with
  | [x, y] => (sqOf S x).bind fun q => (sqOf S y).map fun u => ((List.zipWith zipPair q.1 u.1, gAnd q.2 u.2), S)
  | _ => none
def iZipD (f : MA) : MI := fun ρ S => (f ρ S).bind fun p => zipW p.1 p.2
theorem i_zip (hm : X.mg "zip" = none) (h : EvA X [a, b] fs) (hg : Gl X "zip" := by rfl) (hs : starEach [a, b] X.env = (false, eval a X.env) :: starEach [b] X.env := by rfl) (hpl : (backTo pos (starEach [b] X.env)).any (·.1) = false := by rfl) :
    EvI X (.Tuple elts kk tpos) (.Call (.Name "zip" p) [a, b] [] pos) (iZipD fs) := PI.imp (pi_zipB hg hm h hs hpl) fun σ H R => by
  rintro ⟨W, ρ, ds, g, S', rfl, ok, hρ, he, q⟩
  unfold iZipD at he
  rw [Option.bind_eq_some_iff] at he
  obtain ⟨⟨xs, S1⟩, e1, he⟩ := he
  dsimp only [zipW] at he
  split at he
  · rename_i x y
    rw [Option.bind_eq_some_iff] at he
    obtain ⟨⟨zs, gd⟩, e2, he⟩ := he
    simp only [Option.map_eq_some_iff, Prod.mk.injEq] at he
    obtain ⟨⟨zs2, gd2⟩, e22, ⟨rfl, rfl⟩, rfl⟩ := he
    refine ⟨W, ρ, [x, y], S1, rfl, ok, hρ, e1, fun W' vs st r => ?_⟩
    obtain ⟨v, v2, rfl, r1, r2⟩ := rps_two r
    obtain ⟨t, ad, us, rfl, h1, h2, later⟩ := sqOf_ok (by rw [st.st]; exact e2) st.ok r1
    obtain ⟨t2, ad2, us2, rfl, h12, h22, later2⟩ := sqOf_ok (by rw [st.st]; exact e22) st.ok r2
    refine ⟨t, t2, ad, ad2, us, us2, rfl, h1, h12, q W' _ st ⟨fun W1 i d e3 _ ok1 g1 hd => ?_, fun W1 e3 _ ok1 g1 => ?_⟩⟩
    · simp only [gAnd, Bool.and_eq_true] at g1
      obtain ⟨us1, h3, h4⟩ := later W1 e3 ok1 g1.1
      obtain ⟨ws1, h32, h42⟩ := later2 W1 e3 ok1 g1.2
      rw [List.getElem?_zipWith] at hd
      split at hd
      · rename_i y1 y2 hy1 hy2
        cases hd
        obtain ⟨v1, h5, h6⟩ := h4.get hy1
        obtain ⟨v2, h52, h62⟩ := h42.get hy2
        refine ⟨⟨us1, ws1, v1, v2, h3, h32, h5, h52⟩, fun z H' hz => ?_⟩
        obtain ⟨T, y', y2', rfl, hT, rfl, hall, hall2⟩ := hz
        have := hall us1 h3
        rw [h5] at this; cases this
        have := hall2 ws1 h32
        rw [h52] at this; cases this
        exact newTup_ok ok1 ⟨_, _, rfl, h6, _, _, rfl, h62, rfl⟩ hT
      · cases hd
    · simp only [gAnd, Bool.and_eq_true] at g1
      obtain ⟨us1, h3, h4⟩ := later W1 e3 ok1 g1.1
      obtain ⟨ws1, h32, h42⟩ := later2 W1 e3 ok1 g1.2
      exact ⟨us1, ws1, h3, h32, by rw [List.length_zipWith, h4.length, h42.length]⟩
  · cases he
variable {ρ : EnvD} {S : Store}
@[simp] theorem iEnumD_r : iEnumD fs ρ S = (fs ρ S).bind fun p => enumW p.1 p.2 := (rfl)
@[simp] theorem iZipD_r : iZipD fs ρ S = (fs ρ S).bind fun p => zipW p.1 p.2 := (rfl)
@[simp] theorem fLen_tup {xs : List D} : fLen [.tup xs] S = some (.int xs.length, S) := (rfl)
@[simp] theorem fLen_lst {xs : List D} : fLen [.lst xs] S = some (.int xs.length, S) := (rfl)
@[simp] theorem sqOf_tup {xs : List D} : sqOf S (.tup xs) = some (xs, gYes) := (rfl)
@[simp] theorem sqOf_lst {xs : List D} : sqOf S (.lst xs) = some (xs, gYes) := (rfl)
@[simp] theorem enumW_r {x : D} : enumW [x] S = (sqOf S x).map fun q => ((enumD 0 q.1, q.2), S) := (rfl)
@[simp] theorem zipW_r {x y : D} : zipW [x, y] S = (sqOf S x).bind fun q => (sqOf S y).map fun u => ((List.zipWith zipPair q.1 u.1, gAnd q.2 u.2), S) := (rfl)
end
end Ev
end L2

set_option maxHeartbeats 4000000
namespace L2
namespace Ev
open PyProof.Rows PySem.Spec PySem L2
variable [Tb]
/-! ### a def that nobody calls: for recursion -/
theorem spD_none {m : Md} {n : Nat} {vs : List V} {H : Hp} {Q : VK} {E : XK} (h : spD m n (fun _ _ => none) vs H Q E) : False := by
  obtain ⟨_, _, _, _, _, _, _, _, h, _⟩ := h
  cases h
theorem Df.none {P : Program} {w : World} {K : PySem.W.Frag} {mg : Str → Option Value} {base : Heap} {x : Str} {k n : Nat} {f : Addr} {fd : FuncData} {ps : List Str} (hm : mg x = some (.ref f)) (kp : PySem.W.keepIn K (.ref f) = true) (bd : Binds K fd ps []) (hn : ps.length = n) :
    Df P w K mg base x k n (fun _ _ => Option.none) := ⟨f, fd, ps, hm, kp, bd, hn, ⟨fun vs H Q E h => (spD_none h).elim, fun A outer s H args us vs Q E _ _ _ _ h => (spD_none h).elim⟩⟩
/-! ### range with a step -/
def rangeCD (lo c : Int) (n : Nat) : List D := (List.range n).map fun i => .int (lo + (i : Nat) * c)
theorem rangeCD_get {lo c : Int} {n i : Nat} {d : D} (h : (rangeCD lo c n)[i]? = some d) : i < n ∧ d = .int (lo + (i : Nat) * c) := by
  unfold rangeCD at h
  rw [List.getElem?_map] at h
  by_cases hi : i < n
  · rw [List.getElem?_range hi] at h
    exact ⟨hi, (Option.some.inj h).symm⟩
  · rw [List.getElem?_eq_none (by rw [List.length_range]; omega)] at h
    cases h
theorem walk_rangeC {m : Md} {W : Wd} (lo c : Int) (n : Nat) : Walk m (Itc lo c n) (rangeCD lo c n) gYes W := ⟨fun W1 i d e _ ok g hd => by
    obtain ⟨h1, rfl⟩ := rangeCD_get hd
    refine ⟨h1, fun x H' hy => ?_⟩
    obtain ⟨rfl, rfl⟩ := hy
    exact ⟨W1, rfl, Step.refl ok, rfl⟩, fun W1 e _ ok g => by
    show n ≤ (rangeCD lo c n).length
    unfold rangeCD; rw [List.length_map, List.length_range]; exact Nat.le_refl _⟩
def rng3 (xs : List D) (S : Store) : Option ((List D × (Store → Bool)) × Store) := match xs with
  | [.int i, .int j, .int c] => if 0 < c ∧ c < 1000000 ∧ Builtin.Range.small i j c = true then some ((rangeCD i c (Builtin.Range.rangeSize i j c).toNat, gYes), S) else none
  | _ => none
def iRng3D (f : MA) : MI := fun ρ S => (f ρ S).bind fun p => rng3 p.1 p.2
section
variable {X : Cx} {a b c tg : Expr} {fs : MA} {pos p tpos : Pos} {ρ : EnvD} {S : Store}
@[simp] theorem iRng3D_r : iRng3D fs ρ S = (fs ρ S).bind fun p => rng3 p.1 p.2 := (rfl)
theorem range_nn {i j c : Int} (hc : 0 < c) : 0 ≤ Builtin.Range.rangeSize i j c := by
  unfold Builtin.Range.rangeSize
  split
  · split
    · have : 0 ≤ (j - i - 1) / c := Int.ediv_nonneg (by omega) (by omega)
      omega
    · omega
  · omega
theorem i_range3 (hm : X.mg "range" = none) (h : EvA X [a, b, c] fs) (hg : Gl X "range" := by rfl) (hs : starEach [a, b, c] X.env = (false, eval a X.env) :: starEach [b, c] X.env := by rfl) (hpl : (backTo pos (starEach [b, c] X.env)).any (·.1) = false := by rfl) :
    EvI X tg (.Call (.Name "range" p) [a, b, c] [] pos) (iRng3D fs) := PI.imp (pi_range3 hg hm h hs hpl) fun σ H R => by
  rintro ⟨W, ρ, ds, g, S', rfl, ok, hρ, he, q⟩
  unfold iRng3D at he
  rw [Option.bind_eq_some_iff] at he
  obtain ⟨⟨xs, S1⟩, e1, he⟩ := he
  dsimp only [rng3] at he
  split at he
  · rename_i i j k
    split at he
    · rename_i hb
      cases he
      refine ⟨W, ρ, _, _, rfl, ok, hρ, e1, fun W' vs st r => ?_⟩
      obtain ⟨v1, v2, v3, rfl, r1, r2, r3⟩ := rps_three r
      obtain rfl : v1 = .int i := r1
      obtain rfl : v2 = .int j := r2
      obtain rfl : v3 = .int k := r3
      refine ⟨i, j, k, (Builtin.Range.rangeSize i j k).toNat, rfl, ⟨by omega, by omega, hb.2.2, ?_⟩, q W' _ st (walk_rangeC i k _)⟩
      · rw [Int.toNat_of_nonneg (range_nn hb.1)]
    · cases he
  · cases he
end
/-! ### a * k: ints, tuples, lists -/
theorem tuple_mul_same (l : Addr) (items : Array Value) (n : Nat) (dd : Option Addr) (sl : Array (Option Value)) (x : Int) (u : Tok) (c0 : (decide (x < -(2 ^ 63)) || decide (x ≥ 2 ^ 63)) = false) (c1 : (items.isEmpty || x == 1) = true) :
    Meets (Builtin.«tuple.__mul__» ⟨[.ref l, .int x u], []⟩) (fun _ R s => s.heap.get? l = some { cls := .type "tuple", dict := dd, data := .seq items n, slots := sl } ∧ R (.ok (.ret (Value.ref l))) s) :=
  .of_wp fun prog w A R s h => by
    obtain ⟨hp, g, d, tk, os⟩ := s
    obtain ⟨hl, h⟩ := h
    have f1 := AutoSeq1.idx_int
    wp_walk using wpAny_loadPart' hl
    repeat (first
      | (refine wpAny_ite_false (decide_eq_false (by rw [c0]; exact Bool.false_ne_true)) ?_; wp_walk using wpAny_loadPart' hl)
      | (refine wpAny_ite_true (decide_eq_true c1) ?_; wp_walk using wpAny_loadPart' hl))
    exact ⟨_, rfl, h⟩
theorem tuple_mul_none (l : Addr) (items : Array Value) (n : Nat) (dd : Option Addr) (sl : Array (Option Value)) (x : Int) (u : Tok) (c0 : (decide (x < -(2 ^ 63)) || decide (x ≥ 2 ^ 63)) = false) (c1 : (items.isEmpty || x == 1) = false) (c2 : (decide (x ≤ 0) || items.isEmpty) = true) :
    Meets (Builtin.«tuple.__mul__» ⟨[.ref l, .int x u], []⟩) (fun _ R s => s.heap.get? l = some { cls := .type "tuple", dict := dd, data := .seq items n, slots := sl } ∧
      R (.ok (.ret (Value.ref s.heap.objs.size))) { s with heap := s.heap.push { cls := Value.type "tuple", data := Data.seq #[] }, toks := s.toks }) :=
  .of_wp fun prog w A R s h => by
    obtain ⟨hp, g, d, tk, os⟩ := s
    obtain ⟨hl, h⟩ := h
    have f1 := AutoSeq1.idx_int
    wp_walk using wpAny_loadPart' hl
    repeat (first
      | (refine wpAny_ite_false (decide_eq_false (by rw [c0]; exact Bool.false_ne_true)) ?_; wp_walk using wpAny_loadPart' hl)
      | (refine wpAny_ite_false (decide_eq_false (by rw [c1]; exact Bool.false_ne_true)) ?_; wp_walk using wpAny_loadPart' hl)
      | (refine wpAny_ite_true (decide_eq_true c2) ?_; wp_walk using wpAny_loadPart' hl))
    exact ⟨_, rfl, h⟩
def rRepA (K : PySem.W.Frag) : R2 := fun x y H Q => ∃ l k xs, x = .ref l ∧ y = .int k ∧ SqT K H l xs ∧ ((k = 1 ∧ Q (.ref l) H) ∨ (xs = [] ∧ -1000 ≤ k ∧ k ≤ 1000 ∧ Q (.ref l) H) ∨ (k = 0 ∧ xs ≠ [] ∧ ∀ p, H p = none → Q (.ref p) (upd H p (.tup []))))
theorem op_repA {X : Cx} : OpR X (binaryOp .Mult) (rRepA X.K) := by
  intro pins s σ H x y v u Q I rx ry h
  obtain ⟨l, k, xs, rfl, rfl, hT, h⟩ := h
  cases rx
  obtain ⟨t, rfl⟩ := ry
  obtain ⟨its, r, ⟨⟨cls, dd, data, sl⟩, ho, hc, n, hd⟩, hs⟩ := I.tuple hT
  simp only at hc hd
  subst hc hd
  have hk : -1000 ≤ k ∧ k ≤ 1000 := by
    rcases h with ⟨rfl, _⟩ | ⟨_, h1, h2, _⟩ | ⟨rfl, _⟩ <;> omega
  have hle : its.length = xs.length := r.length.symm
  have hi : its.toArray.isEmpty = xs.isEmpty := by
    cases its with
    | nil => cases xs with
      | nil => rfl
      | cons a b => simp at hle
    | cons a b => cases xs with
      | nil => simp at hle
      | cons a b => rfl
  have c0 : (decide (k < -(2 ^ 63)) || decide (k ≥ 2 ^ 63)) = false := by
    rw [decide_eq_false (by omega), decide_eq_false (by omega)] <;> rfl
  have same : Q (.ref l) H → (its.toArray.isEmpty || k == 1) = true → wpAny (model X.prog X.w) X.A (binaryOp .Mult (.ref l) (.int k t)) (EP X pins σ Q) X.xe s := fun q c1 => by
    refine wpAny_binaryOp_repeat_ref (T := "tuple") (U := "int") (by decide) ⟨_, ho, rfl⟩ (fun s' => typeIs_int s' k t) noFill_tuple_mul F.fills_int_mul F.slot_int_rmul repeat_tuple F.slot_int_index.lookup
      (call_meets F.slot_int_rmul (typeIs_int s k t) F.entry_int_rmul (F.args_int_rmul_2 _ _) (int_rmul_tuple k t l its.toArray n dd sl)
        ⟨ho, rfl, ⟨_, ho, rfl⟩, call_meets F.slot_tuple_mul ⟨_, ho, rfl⟩ F.entry_tuple_mul (F.args_tuple_mul_2 _ _) (tuple_mul_same l its.toArray n dd sl k t c0 c1) ⟨ho, ?_⟩⟩)
    exact ⟨.ref l, _, I, rfl, q⟩
  rcases h with ⟨rfl, q⟩ | ⟨rfl, _, _, q⟩ | ⟨rfl, hne, q⟩
  · exact same q (by simp)
  · exact same q (by rw [hi]; rfl)
  · have c1 : (its.toArray.isEmpty || (0 : Int) == 1) = false := by
      rw [hi]
      cases xs with
      | nil => exact absurd rfl hne
      | cons a b => rfl
    have c2 : (decide ((0 : Int) ≤ 0) || its.toArray.isEmpty) = true := by simp
    refine wpAny_binaryOp_repeat_ref (T := "tuple") (U := "int") (by decide) ⟨_, ho, rfl⟩ (fun s' => typeIs_int s' 0 t) noFill_tuple_mul F.fills_int_mul F.slot_int_rmul repeat_tuple F.slot_int_index.lookup
      (call_meets F.slot_int_rmul (typeIs_int s 0 t) F.entry_int_rmul (F.args_int_rmul_2 _ _) (int_rmul_tuple 0 t l its.toArray n dd sl)
        ⟨ho, rfl, ⟨_, ho, rfl⟩, call_meets F.slot_tuple_mul ⟨_, ho, rfl⟩ F.entry_tuple_mul (F.args_tuple_mul_2 _ _) (tuple_mul_none l its.toArray n dd sl 0 t c0 c1 c2) ⟨ho, ?_⟩⟩)
    refine ⟨.ref s.heap.objs.size, _, I.laid (t' := s.toks) (o := .tup []) (fun b ob q => Heap.get?_push_of_some _ q) (Nat.le_refl _) ?_, rfl, q _ (I.hok.fresh (Nat.le_refl _))⟩
    exact ⟨Nat.zero_le _, [], .nil, IsTup.new _ _⟩
def repD (k : Nat) (xs : List D) : List D := (List.replicate k xs).flatten
theorem rps_rep {m : Md} {W : Wd} {ds : List D} {vs : List V} (r : Rps m.K W ds vs) : ∀ k, Rps m.K W (repD k ds) (List.replicate k vs).flatten
  | 0 => rfl
  | k + 1 => by
    show Rps m.K W (List.replicate (k + 1) ds).flatten _
    rw [List.replicate_succ, List.replicate_succ, List.flatten_cons, List.flatten_cons]
    exact r.append (rps_rep r k)
def opMulS (mu : Bool) : D → D → M D := fun x y S => match x, y with
  | .int a, .int b => opMul (.int a) (.int b) S
  | .tup xs, .int k => if 0 ≤ k ∧ k ≤ 1000 ∧ xs.length ≤ 1000 then some (.tup (repD k.toNat xs), S) else none
  | x, .int k => (listOf S x).bind fun xs => if -1000 ≤ k ∧ k ≤ 1000 ∧ xs.length ≤ 1000 then newL mu (repD k.toNat xs) S else none
  | _, _ => none
theorem o_mulS {X : Cx} (mu : Bool) : Op2 X (binaryOp .Mult) (opMulS mu) := OpR.split fun x y H Q h => by
  obtain ⟨W, dx, dy, d, S', rfl, ok, r1, r2, he, q⟩ := h
  by_cases hy : ∃ k, dy = .int k
  · obtain ⟨k, rfl⟩ := hy
    obtain rfl : y = .int k := r2
    by_cases hx : ∃ a, dx = .int a
    · obtain ⟨a, rfl⟩ := hx
      exact ⟨_, o_mul, W, .int a, .int k, d, S', rfl, ok, r1, rfl, he, q⟩
    · by_cases ht : ∃ xs, dx = .tup xs
      · obtain ⟨xs, rfl⟩ := ht
        simp only [opMulS] at he
        split at he
        · rename_i hb
          cases he
          obtain ⟨a, vs, rfl, h1, h2⟩ := id r1
          have hl := h2.length
          by_cases k1 : k = 1
          · subst k1
            refine ⟨_, op_repA, a, 1, vs, rfl, rfl, h1, .inl ⟨rfl, q W _ (Step.refl ok) ?_⟩⟩
            have e : repD (1 : Int).toNat xs = xs := by simp [repD]
            rw [e]; exact r1
          · by_cases hv : vs = []
            · subst hv
              have hx : xs = [] := by cases xs with
                | nil => rfl
                | cons _ _ => simp at hl
              subst hx
              refine ⟨_, op_repA, a, k, [], rfl, rfl, h1, .inr (.inl ⟨rfl, by omega, by omega, q W _ (Step.refl ok) ?_⟩)⟩
              have e : repD k.toNat [] = [] := by
                have : ∀ n, repD n [] = [] := fun n => by
                  unfold repD
                  induction n with
                  | zero => rfl
                  | succ n ih => rw [List.replicate_succ, List.flatten_cons, ih]; rfl
                exact this _
              rw [e]; exact r1
            · by_cases k0 : k = 0
              · subst k0
                exact ⟨_, op_repA, a, 0, vs, rfl, rfl, h1, .inr (.inr ⟨rfl, hv, fun p hp => newT_ok ok (show Rps X.K W (repD (0 : Int).toNat xs) [] from rfl) hp q⟩)⟩
              · exact ⟨_, op_repT, a, k, vs, rfl, rfl, h1, hv, by omega, by omega, by omega, fun p hp => newT_ok ok (rps_rep h2 _) hp q⟩
        · cases he
      · have he : ((listOf W.S dx).bind fun xs => if -1000 ≤ k ∧ k ≤ 1000 ∧ xs.length ≤ 1000 then newL mu (repD k.toNat xs) W.S else none) = some (d, S') := by
          cases dx with
          | int a => exact absurd ⟨a, rfl⟩ hx
          | tup a => exact absurd ⟨a, rfl⟩ ht
          | _ => exact he
        rw [Option.bind_eq_some_iff] at he
        obtain ⟨xs, e1, he⟩ := he
        split at he
        · rename_i hb
          obtain ⟨a, vs, rfl, h1, h2⟩ := listOf_ok ok e1 r1
          have hl := h2.length
          refine ⟨_, op_rep, a, k, vs, rfl, rfl, h1, by omega, by omega, ?_, fun p hp => newL_ok he ok (rps_rep h2 _) hp q⟩
          have : vs.length * k.toNat ≤ 1000 * 1000 := Nat.mul_le_mul (by omega) (by omega)
          rw [sizeLine_eq]; omega
        · cases he
  · have : opMulS mu dx dy W.S = none := by
      cases dy <;> first | (cases dx <;> rfl) | exact absurd ⟨_, rfl⟩ hy
    rw [this] at he; cases he
section
variable {S : Store} {mu : Bool}
@[simp] theorem opMulS_int {a b : Int} : opMulS mu (.int a) (.int b) S = opMul (.int a) (.int b) S := (rfl)
theorem opMulS_tup {xs : List D} {k : Int} (h0 : 0 ≤ k) (h1 : k ≤ 1000) (h2 : xs.length ≤ 1000) : opMulS mu (.tup xs) (.int k) S = some (.tup (repD k.toNat xs), S) := by
  simp only [opMulS]; rw [if_pos ⟨h0, h1, h2⟩]
theorem opMulS_lst {xs : List D} {k : Int} (h0 : -1000 ≤ k) (h1 : k ≤ 1000) (h2 : xs.length ≤ 1000) : opMulS mu (.lst xs) (.int k) S = newL mu (repD k.toNat xs) S := by
  simp only [opMulS, listOf, Option.bind_some]; rw [if_pos ⟨h0, h1, h2⟩]
end
end Ev
end L2

namespace L2
namespace Ev
open PyProof.Rows PySem.Spec PySem L2
variable [Tb]
/-! ### values told as data of Lean -/
class Enc (α : Type) where
  e : α → D
  inj : ∀ {a b : α}, e a = e b → a = b
  nob : ∀ a, D.noB (e a) = true
  dp : Nat
  dep : ∀ a, D.dep (e a) ≤ dp
open Enc (e)
instance encInt : Enc Int := ⟨.int, fun h => D.int.inj h, fun _ => rfl, 0, fun _ => Nat.le_refl _⟩
instance encStr : Enc Str := ⟨.str, fun h => D.str.inj h, fun _ => rfl, 0, fun _ => Nat.le_refl _⟩
instance encPart : Enc Part := ⟨partD, fun h => partD_inj _ _ h, noB_part, 0, fun p => by cases p <;> exact Nat.le_refl _⟩
instance encPair {α β : Type} [Enc α] [Enc β] : Enc (α × β) where
  e := fun p => .tup [e p.1, e p.2]
  inj := fun {a b} h => by
    have h := D.tup.inj h
    simp only [List.cons.injEq, and_true] at h
    exact Prod.ext (Enc.inj h.1) (Enc.inj h.2)
  nob := fun a => by simp [D.noB, D.noBs, Enc.nob]
  dp := max (Enc.dp α) (Enc.dp β) + 1
  dep := fun a => by
    have h1 := Enc.dep a.1
    have h2 := Enc.dep a.2
    simp only [D.dep, D.deps]; omega
instance encList {α : Type} [Enc α] : Enc (List α) where
  e := fun l => .tup (l.map e)
  inj := fun {a b} h => map_inj (fun x y => Enc.inj) (D.tup.inj h)
  nob := fun a => by rw [D.noB]; exact noBs_map _ fun p _ => Enc.nob p
  dp := Enc.dp α + 1
  dep := fun a => by
    have := deps_map (f := e) (n := Enc.dp α) a fun p _ => Enc.dep p
    simp only [D.dep]; omega
example (p : P2) : pairD p = e p := rfl
example (p : Fan) : fanD p = e p := rfl
example (p : List Fan) : spreadD p = e p := rfl
example (p : Gram) : gramD p = e p := rfl
section
variable {α β : Type} [Enc α] [Enc β] [DecidableEq α] {S : Store} {n : Nat}
theorem e_eq (a b : α) : (e a = e b) = (a = b) := propext ⟨Enc.inj, fun h => by rw [h]⟩
theorem opEq_e (neg : Bool) (a b : α) (h : Enc.dp α ≤ 100 := by exact Nat.le_of_ble_eq_true rfl) : opEq neg (e a) (e b) S = some (.bl (neg != decide (a = b)), S) := by
  have := Enc.dep a
  rw [opEq_noB (Enc.nob a) (Enc.nob b) (by omega)]
  simp only [e_eq]
/-- lists of such, frozen -/
theorem opEq_l (neg : Bool) (a b : List α) (h : Enc.dp α ≤ 99 := by exact Nat.le_of_ble_eq_true rfl) : opEq neg (.lst (a.map e)) (.lst (b.map e)) S = some (.bl (neg != decide (a = b)), S) := by
  have := deps_map (f := e) (n := Enc.dp α) a fun p _ => Enc.dep p
  rw [opEq_noB (by rw [D.noB]; exact noBs_map _ fun p _ => Enc.nob p) (by rw [D.noB]; exact noBs_map _ fun p _ => Enc.nob p) (by simp only [D.dep]; omega)]
  have e1 : (D.lst (a.map e) = D.lst (b.map e)) = (a = b) := propext ⟨fun h => map_inj (fun x y => Enc.inj) (D.lst.inj h), fun h => by rw [h]⟩
  simp only [e1]
/-! ### keys -/
class EncK (α : Type) extends Enc α where
  kind : (∀ a, flatK (e a) = true) ∨ (∀ a, tupK (e a) = true)
instance encKInt : EncK Int := ⟨.inl fun _ => rfl⟩
instance encKStr : EncK Str := ⟨.inl fun _ => rfl⟩
end
mutual
/-- no lists within -/
def D.hsh : D → Bool
  | .non => true
  | .int _ => true
  | .str _ => true
  | .tup ds => D.hshs ds
  | _ => false
def D.hshs : List D → Bool
  | [] => true
  | d :: ds => D.hsh d && D.hshs ds
end
mutual
theorem nkey_hsh : ∀ d : D, D.hsh d = true → ∃ n, nkey d = some n ∧ n.depth = D.dep d
  | .non, _ => ⟨_, rfl, by simp [NestedKey.depth, D.dep]⟩
  | .int _, _ => ⟨_, rfl, by simp [NestedKey.depth, D.dep]⟩
  | .str _, _ => ⟨_, rfl, by simp [NestedKey.depth, D.dep]⟩
  | .tup ds, h => by
    simp only [D.hsh] at h
    obtain ⟨ks, h1, h2⟩ := nkeys_hsh ds h
    exact ⟨.tup ks, by rw [nkey, h1]; rfl, by rw [NestedKey.depth, h2, D.dep]⟩
  | .bl _, h => by cases h
  | .lst _, h => by cases h
  | .ref _, h => by cases h
  | .adr _, h => by cases h
  | .scr _, h => by cases h
theorem nkeys_hsh : ∀ ds : List D, D.hshs ds = true → ∃ ks, nkeys ds = some ks ∧ NestedKey.depthAll ks = D.deps ds
  | [], _ => ⟨[], rfl, by simp [NestedKey.depthAll, D.deps]⟩
  | d :: ds, h => by
    simp only [D.hshs, Bool.and_eq_true] at h
    obtain ⟨n, h1, h2⟩ := nkey_hsh d h.1
    obtain ⟨ks, h3, h4⟩ := nkeys_hsh ds h.2
    exact ⟨n :: ks, by rw [nkeys, h1, h3], by rw [NestedKey.depthAll, h2, h4, D.deps]⟩
end
theorem tupK_hsh {ds : List D} (h : D.hshs ds = true) (hd : D.deps ds ≤ 7) : tupK (.tup ds) = true := by
  obtain ⟨n, h1, h2⟩ := nkey_hsh (.tup ds) (by simp only [D.hsh]; exact h)
  unfold tupK
  simp only [h1, decide_eq_true_eq, h2, D.dep]
  omega
class Hsh (α : Type) extends Enc α where
  hsh : ∀ a, D.hsh (e a) = true
instance hshInt : Hsh Int := ⟨fun _ => rfl⟩
instance hshStr : Hsh Str := ⟨fun _ => rfl⟩
instance hshPart : Hsh Part := ⟨fun p => by cases p <;> rfl⟩
instance hshPair {α β : Type} [Hsh α] [Hsh β] : Hsh (α × β) := ⟨fun a => by simp [e, D.hsh, D.hshs, Hsh.hsh]⟩
theorem hshs_map {α : Type} [Hsh α] : ∀ l : List α, D.hshs (l.map e) = true
  | [] => rfl
  | a :: l => by simp [D.hshs, Hsh.hsh, hshs_map l]
instance hshList {α : Type} [Hsh α] : Hsh (List α) := ⟨fun a => by show D.hsh (.tup (a.map e)) = true; rw [D.hsh]; exact hshs_map a⟩
theorem EncK.pair {α β : Type} [Hsh α] [Hsh β] (h : Enc.dp (α × β) ≤ 8) : ∀ a : α × β, tupK (e a) = true := fun a => by
  have h1 := Enc.dep a
  refine tupK_hsh (by simp [D.hshs, Hsh.hsh]) ?_
  have h2 : D.dep (.tup [e a.1, e a.2]) ≤ Enc.dp (α × β) := h1
  simp only [D.dep] at h2; omega
theorem EncK.list {α : Type} [Hsh α] (h : Enc.dp (List α) ≤ 8) : ∀ a : List α, tupK (e a) = true := fun a => by
  have h1 := Enc.dep a
  refine tupK_hsh (hshs_map a) ?_
  have h2 : D.dep (.tup (a.map e)) ≤ Enc.dp (List α) := h1
  simp only [D.dep] at h2; omega
instance encKP2 : EncK P2 := ⟨.inr (EncK.pair (by decide))⟩
instance encKIP2 : EncK (Int × P2) := ⟨.inr (EncK.pair (Nat.le_of_ble_eq_true rfl))⟩
instance encKPL : EncK (P2 × List Int) := ⟨.inr (EncK.pair (Nat.le_of_ble_eq_true rfl))⟩
instance encKLI : EncK (List Int) := ⟨.inr (EncK.list (Nat.le_of_ble_eq_true rfl))⟩
section
variable {α β : Type} [EncK α] [DecidableEq α] {S : Store} {n : Nat}
theorem fit_e (a b : α) : ((flatK (e b) && flatK (e a)) || (tupK (e b) && tupK (e a))) = true := by
  rcases EncK.kind (α := α) with h | h <;> simp [h]
theorem fit_n (a : α) : (flatK (e a) || tupK (e a)) = true := by
  rcases EncK.kind (α := α) with h | h <;> simp [h]
/-! ### dicts: keys told, values as they are -/
def kvD (ev : β → D) (l : List (α × β)) : List (D × D) := l.map fun p => (e p.1, ev p.2)
def lk (l : List (α × β)) (a : α) : Option β := (l.find? fun p => decide (p.1 = a)).map (·.2)
def pt (l : List (α × β)) (a : α) (b : β) : List (α × β) := if (lk l a).isSome then l.map (fun p => if p.1 = a then (a, b) else p) else l ++ [(a, b)]
theorem lk_nil (a : α) : lk ([] : List (α × β)) a = none := rfl
theorem lk_cons (p : α × β) (l : List (α × β)) (a : α) : lk (p :: l) a = if p.1 = a then some p.2 else lk l a := by
  unfold lk
  rw [List.find?_cons]
  by_cases h : p.1 = a <;> simp [h]
theorem fitK_kv (ev : β → D) (l : List (α × β)) (a : α) : fitK (kvD ev l) (e a) = true := by
  cases l with
  | nil => exact fit_n a
  | cons p l => exact fit_e p.1 a
theorem dGet_kv (ev : β → D) (a : α) : ∀ l : List (α × β), dGet (kvD ev l) (e a) = (lk l a).map ev
  | [] => rfl
  | p :: l => by
    show dGet ((e p.1, ev p.2) :: kvD ev l) (e a) = _
    rw [dGet_cons, lk_cons, dGet_kv ev a l]
    simp only [e_eq]
    split <;> rfl
theorem dPut_kv (ev : β → D) (l : List (α × β)) (a : α) (b : β) : dPut (kvD ev l) (e a) (ev b) = kvD ev (pt l a b) := by
  unfold dPut pt
  rw [dGet_any, dGet_kv, Option.isSome_map]
  split
  · unfold kvD
    rw [List.map_map, List.map_map]
    refine List.map_congr_left fun q _ => ?_
    simp only [Function.comp, e_eq]
    split
    · rename_i h; rw [h]
    · rfl
  · unfold kvD
    rw [List.map_append]; rfl
theorem pt_len (l : List (α × β)) (a : α) (b : β) : (pt l a b).length ≤ l.length + 1 := by
  unfold pt; split <;> simp
theorem lk_map_ne {a k : α} {b : β} (h : k ≠ a) : ∀ l : List (α × β), lk (l.map fun p => if p.1 = a then (a, b) else p) k = lk l k
  | [] => rfl
  | p :: l => by
    rw [List.map_cons, lk_cons, lk_cons, lk_map_ne h l]
    by_cases e1 : p.1 = a
    · rw [if_pos e1]
      dsimp only
      rw [if_neg (fun z => h z.symm), if_neg (fun z => h (z.symm.trans e1))]
    · rw [if_neg e1]
theorem lk_map_eq {a : α} {b : β} : ∀ l : List (α × β), (lk l a).isSome = true → lk (l.map fun p => if p.1 = a then (a, b) else p) a = some b
  | [], h => by cases h
  | p :: l, h => by
    rw [List.map_cons, lk_cons]
    by_cases e1 : p.1 = a
    · rw [if_pos e1]; dsimp only; rw [if_pos rfl]
    · rw [if_neg e1, if_neg e1]
      rw [lk_cons, if_neg e1] at h
      exact lk_map_eq l h
theorem lk_app {a : α} : ∀ (l m : List (α × β)), lk (l ++ m) a = (lk l a).or (lk m a)
  | [], m => rfl
  | p :: l, m => by
    rw [List.cons_append, lk_cons, lk_cons, lk_app l m]
    split <;> rfl
theorem lk_pt (l : List (α × β)) (a k : α) (b : β) : lk (pt l a b) k = if k = a then some b else lk l k := by
  unfold pt
  split
  · rename_i h
    by_cases hk : k = a
    · subst hk; rw [if_pos rfl]; exact lk_map_eq l h
    · rw [if_neg hk]; exact lk_map_ne hk l
  · rename_i h
    rw [lk_app]
    by_cases hk : k = a
    · subst hk
      rw [if_pos rfl]
      cases hl : lk l k with
      | none => rw [Option.none_or, lk_cons, if_pos rfl]
      | some x => rw [hl] at h; exact absurd rfl h
    · rw [if_neg hk, lk_cons, if_neg (fun z => hk z.symm), lk_nil, Option.or_none]
theorem lk_mem {l : List (α × β)} {a : α} : (lk l a).isSome = true ↔ a ∈ l.map (·.1) := by
  induction l with
  | nil => simp [lk_nil]
  | cons p l ih =>
    rw [lk_cons, List.map_cons, List.mem_cons]
    by_cases h : p.1 = a
    · simp [h]
    · rw [if_neg h, ih]
      constructor
      · exact .inr
      · rintro (h' | h')
        · exact absurd h'.symm h
        · exact h'
theorem pt_keys (l : List (α × β)) (a : α) (b : β) : (pt l a b).map (·.1) = if a ∈ l.map (·.1) then l.map (·.1) else l.map (·.1) ++ [a] := by
  unfold pt
  by_cases h : a ∈ l.map (·.1)
  · rw [if_pos (lk_mem.mpr h), if_pos h, List.map_map]
    refine List.map_congr_left fun p _ => ?_
    simp only [Function.comp]
    split
    · rename_i e1; exact e1.symm
    · rfl
  · rw [if_neg (fun z => h (lk_mem.mp z)), if_neg h, List.map_append]; rfl
theorem pt_nodup {l : List (α × β)} {a : α} {b : β} (h : (l.map (·.1)).Nodup) : ((pt l a b).map (·.1)).Nodup := by
  rw [pt_keys]
  split
  · exact h
  · rename_i hm
    rw [List.nodup_append]
    refine ⟨h, by simp, fun x hx y hy e1 => ?_⟩
    rw [List.mem_singleton.mp hy] at e1
    subst e1; exact hm hx
/-- in a place's dict -/
theorem opIn_ref (neg : Bool) (x : D) {S : Store} {n : Nat} {kvs : List (D × D)} (h : S[n]? = some (.dct kvs)) (hf : fitK kvs x = true) : opIn neg x (.ref n) S = some (.bl (neg != (dGet kvs x).isSome), S) := by
  have e1 : dctOf S (.ref n) = some kvs := by simp only [dctOf, h]
  unfold opIn
  cases x <;> simp only [e1, hf, if_true]
theorem opIn_kv (neg : Bool) (ev : β → D) {l : List (α × β)} (a : α) (h : S[n]? = some (.dct (kvD ev l))) : opIn neg (e a) (.ref n) S = some (.bl (neg != (lk l a).isSome), S) := by
  rw [opIn_ref neg (e a) h (fitK_kv ev l a), dGet_kv, Option.isSome_map]
theorem stPut_kv (ev : β → D) {l : List (α × β)} (a : α) (b : β) (h : S[n]? = some (.dct (kvD ev l))) (hl : l.length < 16777216) : stPut (.ref n) (e a) (ev b) S = some (S.set n (.dct (kvD ev (pt l a b)))) := by
  unfold stPut
  simp only [h]
  rw [if_pos ⟨fitK_kv ev l a, by unfold kvD; rw [List.length_map, sizeLine_eq]; exact hl⟩, dPut_kv]
theorem opSub2_kv (ev : β → D) {l : List (α × β)} (a : α) (b : β) (h : S[n]? = some (.dct (kvD ev l))) (hk : lk l a = some b) : opSub2 (.ref n) (e a) S = some (ev b, S) := by
  unfold opSub2
  have e1 : dctOf S (.ref n) = some (kvD ev l) := by simp only [dctOf, h]
  simp only [e1, fitK_kv, if_true, dGet_kv, hk]; rfl
theorem dmGet_kv (ev : β → D) {l : List (α × β)} (a : α) (z : D) (h : S[n]? = some (.dct (kvD ev l))) : dmGet (.ref n) [e a, z] S = some (((lk l a).map ev).getD z, S) := by
  unfold dmGet
  have e1 : dctOf S (.ref n) = some (kvD ev l) := by simp only [dctOf, h]
  simp only [e1, Option.bind_some, fitK_kv, if_true, dGet_kv]
/-! ### sets: dicts with truths -/
def stD (l : List α) : List (D × D) := l.map fun a => (e a, .bl true)
def ins (l : List α) (a : α) : List α := if a ∈ l then l else l ++ [a]
theorem stD_kv (l : List α) : stD l = kvD (fun _ : Unit => .bl true) (l.map fun a => (a, ())) := by
  unfold stD kvD; rw [List.map_map]; rfl
theorem lk_st (l : List α) (a : α) : (lk (l.map fun a => (a, ())) a).isSome = decide (a ∈ l) := by
  by_cases h : a ∈ l
  · rw [lk_mem.mpr (by rw [List.map_map]; simpa using h)]; simp [h]
  · have : ¬ (lk (l.map fun a => (a, ())) a).isSome = true := fun z => h (by have := lk_mem.mp z; rw [List.map_map] at this; simpa using this)
    simp [h, this]
theorem pt_st (l : List α) (a : α) : pt (l.map fun a => (a, ())) a () = (ins l a).map fun a => (a, ()) := by
  unfold pt ins
  rw [lk_st]
  by_cases h : a ∈ l
  · rw [if_pos (by simp [h]), if_pos h, List.map_map]
    refine List.map_congr_left fun q _ => ?_
    simp only [Function.comp]
    split
    · rename_i e1; rw [e1]
    · rfl
  · rw [if_neg (by simp [h]), if_neg h, List.map_append]; rfl
theorem opIn_st (neg : Bool) {l : List α} (a : α) (h : S[n]? = some (.dct (stD l))) : opIn neg (e a) (.ref n) S = some (.bl (neg != decide (a ∈ l)), S) := by
  rw [stD_kv] at h
  rw [opIn_kv neg _ a h, lk_st]
theorem stPut_st {l : List α} (a : α) (h : S[n]? = some (.dct (stD l))) (hl : l.length < 16777216) : stPut (.ref n) (e a) (.bl true) S = some (S.set n (.dct (stD (ins l a)))) := by
  rw [stD_kv] at h
  rw [stPut_kv (fun _ : Unit => .bl true) a () h (by rw [List.length_map]; exact hl), pt_st, ← stD_kv]
theorem ins_len (l : List α) (a : α) : (ins l a).length ≤ l.length + 1 := by unfold ins; split <;> simp
theorem mem_ins {l : List α} {a b : α} : b ∈ ins l a ↔ b ∈ l ∨ b = a := by
  unfold ins
  split
  · constructor
    · exact .inl
    · rintro (h | rfl) <;> assumption
  · simp
theorem ins_nodup {l : List α} {a : α} (h : l.Nodup) : (ins l a).Nodup := by
  unfold ins
  split
  · exact h
  · rename_i hm
    rw [List.nodup_append]
    refine ⟨h, by simp, fun x hx y hy e1 => ?_⟩
    rw [List.mem_singleton.mp hy] at e1
    subst e1; exact hm hx
end
/-- a list without a thing twice is no longer than one that holds it -/
theorem nodup_le {α : Type} [DecidableEq α] : ∀ {l m : List α}, l.Nodup → (∀ x ∈ l, x ∈ m) → l.length ≤ m.length
  | [], m, _, _ => Nat.zero_le _
  | a :: l, m, hn, h => by
    obtain ⟨h1, h2⟩ := List.nodup_cons.mp hn
    have := nodup_le (l := l) (m := m.erase a) h2 fun x hx => by
      have : x ≠ a := fun z => h1 (z ▸ hx)
      exact (List.mem_erase_of_ne this).mpr (h x (List.mem_cons_of_mem _ hx))
    rw [List.length_erase_of_mem (h a List.mem_cons_self)] at this
    have := List.length_pos_of_mem (h a List.mem_cons_self)
    rw [List.length_cons]; omega
section
variable {α : Type} [Enc α] [DecidableEq α] {S : Store}
/-! ### in lists, tuples -/
theorem any_eqv (a : α) : ∀ l : List α, ((ordKs (l.map e)).any fun z => PyData.eqv z (ordK (e a))) = decide (a ∈ l)
  | [] => by simp [ordKs]
  | b :: l => by
    have ih := any_eqv a l
    unfold ordKs at ih ⊢
    rw [List.map_cons, List.map_cons, List.any_cons, ih, eqv_noB _ _ (Enc.nob b) (Enc.nob a)]
    simp only [e_eq, List.mem_cons]
    by_cases h : b = a
    · simp [h]
    · have h' : ¬ a = b := fun z => h z.symm
      simp [h, h']
theorem dal_e (l : List α) : PyData.depthAll (ordKs (l.map e)) ≤ Enc.dp α := by
  rw [depths_noB _ (noBs_map _ fun p _ => Enc.nob p)]
  exact deps_map (f := e) l fun p _ => Enc.dep p
theorem opIn_lst (neg : Bool) (a : α) (l : List α) (h : Enc.dp α ≤ 100 := by exact Nat.le_of_ble_eq_true rfl) : opIn neg (e a) (.lst (l.map e)) S = some (.bl (neg != decide (a ∈ l)), S) := by
  have h1 : py1 S (e a) = some (ordK (e a)) := py1_noB S _ (Enc.nob a)
  have h2 : py2 S (.lst (l.map e)) = some (.list (ordKs (l.map e))) := by rw [py2, py1s_noB S _ (noBs_map _ fun p _ => Enc.nob p)]; rfl
  have h3 := dal_e l
  have h4 := any_eqv a l
  unfold opIn
  generalize e a = d at h1 h4
  cases d <;> (simp only [dctOf_lst, h1, h2, Option.bind_some]; rw [if_pos (by omega), h4])
theorem opIn_tup (neg : Bool) (a : α) (l : List α) (h : Enc.dp α ≤ 100 := by exact Nat.le_of_ble_eq_true rfl) : opIn neg (e a) (.tup (l.map e)) S = some (.bl (neg != decide (a ∈ l)), S) := by
  have h1 : py0 (e a) = some (ordK (e a)) := py0_noB _ (Enc.nob a)
  have h2 : py0s (l.map e) = some (ordKs (l.map e)) := py0s_noB _ (noBs_map _ fun p _ => Enc.nob p)
  have h3 := dal_e l
  have h4 := any_eqv a l
  unfold opIn
  generalize e a = d at h1 h4
  cases d <;> (simp only [h1, h2, Option.bind_some]; rw [if_pos (by omega), h4])
/-! ### items, slices -/
theorem sub_tup {f : α → D} {l : List α} {i : Int} {a : α} (h0 : 0 ≤ i) (h : l[i.toNat]? = some a) : opSub2 (.tup (l.map f)) (.int i) S = some (f a, S) := by
  rw [opSub2_tup, atI_pos h0 (x := f a) (by rw [List.getElem?_map, h]; rfl)]; rfl
theorem sub_lst {f : α → D} {l : List α} {i : Int} {a : α} (h0 : 0 ≤ i) (h : l[i.toNat]? = some a) : opSub2 (.lst (l.map f)) (.int i) S = some (f a, S) := by
  rw [opSub2_lst, atI_pos h0 (x := f a) (by rw [List.getElem?_map, h]; rfl)]; rfl
end
end Ev
end L2

namespace L2
namespace Ev
open PyProof.Rows PySem.Spec PySem L2
variable [Tb]
/-! ### how often each step is taken -/
def subP (p q : P2) : P2 := (p.1 - q.1, p.2 - q.2)
def tryR (f : P2 → Option (List Int)) (s : P2) : Nat → Int → P2 → Option (List Int)
  | 0, _, _ => none
  | k + 1, m, h => if 0 ≤ h.1 ∧ 0 ≤ h.2 then (match f h with
    | some r => some (m :: r)
    | none => tryR f s k (m + 1) (subP h s)) else none
def fuelP (l : P2) : Nat := l.1.toNat + l.2.toNat + 1
def timesR : List P2 → P2 → Option (List Int)
  | [], l => if l = (0, 0) then some [] else none
  | s :: r, l => tryR (timesR r) s (fuelP l) 0 l
def resD : Option (List Int) → D
  | none => .non
  | some ts => .tup (ts.map .int)
def howF (f : Fan) (c : P2) : Option (List Int) := let l := subP c f.1; if l.1 < 0 ∨ l.2 < 0 then none else timesR f.2 l
def goodSt (st : List P2) : Prop := ∀ p ∈ st, 0 ≤ p.1 ∧ 0 ≤ p.2 ∧ p ≠ (0, 0)
def okHow (x : Fan × P2) : Prop := goodSt x.1.2 ∧ x.1.2.length ≤ 60 ∧ (x.1.2.length + 1) * ((x.2.1 - x.1.1.1).toNat + 1) * ((x.2.2 - x.1.1.2).toNat + 1) < 16777216
noncomputable def p_how_in : List D → M D := pureP (fun x : Fan × P2 => [fanD x.1, pairD x.2]) okHow fun x => resD (howF x.1 x.2)
noncomputable def l1_times_for (rec : List D → M D) : MS := (sSeq (sAsg (eCall 3 rec (aCons (eSl false (eV 0) (oYes (eC (.int 1))) oNo) (aCons (eV 4) (aCons (eV 2) aNil)))) (gN 5)) (sSeq (sIf (tOf (eBin (opIs true) (eV 5) (eC .non))) (sRet (eBin (opAdd false) (eTup (aCons (eV 3) aNil)) (eV 5))) sNx) (sSeq (sAsg (eBin (opAdd false) (eV 3) (eC (.int 1))) (gN 3)) (sAsg (eTup (aCons (eBin opSub (eBin opSub2 (eV 4) (eC (.int 0))) (eBin opSub2 (eBin opSub2 (eV 0) (eC (.int 0))) (eC (.int 0)))) (aCons (eBin opSub (eBin opSub2 (eV 4) (eC (.int 1))) (eBin opSub2 (eBin opSub2 (eV 0) (eC (.int 0))) (eC (.int 1)))) aNil))) (gN 4)))))
noncomputable def b_times_for (rec : List D → M D) : MS := (sSeq (sIf (tOf (eBin (opEq false) (eFn fLen (aCons (eV 0) aNil)) (eC (.int 0)))) (sSeq (sIf (tOf (eBin (opEq false) (eV 1) (eTup (aCons (eC (.int 0)) (aCons (eC (.int 0)) aNil))))) (sRet (eTup aNil)) sNx) (sRet (eC .non))) sNx) (sSeq (sIf (tOf (eBin (opIn false) (eTup (aCons (eFn fLen (aCons (eV 0) aNil)) (aCons (eV 1) aNil))) (eV 2))) (sRet (eC .non)) sNx) (sSeq (sAsg (eC (.int 0)) (gN 3)) (sSeq (sAsg (eV 1) (gN 4)) (sSeq (sWhile (tAndD (tOf (eBin opGe (eBin opSub2 (eV 4) (eC (.int 0))) (eC (.int 0)))) (tOf (eBin opGe (eBin opSub2 (eV 4) (eC (.int 1))) (eC (.int 0))))) (l1_times_for rec)) (sSeq (sPut (eV 2) (eTup (aCons (eFn fLen (aCons (eV 0) aNil)) (aCons (eV 1) aNil))) (eC (.bl true))) (sRet (eC .non))))))))
noncomputable def g_times_for : Nat → List D → M D
  | 0 => fun _ _ => none
  | n + 1 => runDef 6 (b_times_for (g_times_for n))
noncomputable def b_how_in : MS := (sSeq (sAsg (eTup (aCons (eBin opSub (eBin opSub2 (eV 1) (eC (.int 0))) (eBin opSub2 (eBin opSub2 (eV 0) (eC (.int 0))) (eC (.int 0)))) (aCons (eBin opSub (eBin opSub2 (eV 1) (eC (.int 1))) (eBin opSub2 (eBin opSub2 (eV 0) (eC (.int 0))) (eC (.int 1)))) aNil))) (gN 2)) (sSeq (sIf (tOrD (tOf (eBin opLt (eBin opSub2 (eV 2) (eC (.int 0))) (eC (.int 0)))) (tOf (eBin opLt (eBin opSub2 (eV 2) (eC (.int 1))) (eC (.int 0))))) (sRet (eC .non)) sNx) (sRet (eCall 3 (g_times_for 64) (aCons (eBin opSub2 (eV 0) (eC (.int 1))) (aCons (eV 2) (aCons eDnew aNil)))))))
noncomputable def g_how_in : List D → M D := runDef 3 b_how_in
def boxL (N : Nat) (L : P2) : List (Int × P2) := (List.range (N + 1)).flatMap fun k : Nat => (List.range (L.1.toNat + 1)).flatMap fun a : Nat => (List.range (L.2.toNat + 1)).map fun b : Nat => ((k : Int), ((a : Int), (b : Int)))
theorem box_len (N : Nat) (L : P2) : (boxL N L).length = (N + 1) * ((L.1.toNat + 1) * (L.2.toNat + 1)) := by
  unfold boxL
  simp only [List.length_flatMap, List.length_map, List.length_range, sum_const]
theorem mem_box {N : Nat} {L : P2} {x : Int × P2} (h0 : 0 ≤ x.1 ∧ x.1 ≤ N) (h1 : 0 ≤ x.2.1 ∧ x.2.1 ≤ L.1) (h2 : 0 ≤ x.2.2 ∧ x.2.2 ≤ L.2) : x ∈ boxL N L := by
  obtain ⟨k, a, b⟩ := x
  dsimp only at h0 h1 h2
  unfold boxL
  simp only [List.mem_flatMap, List.mem_map, List.mem_range]
  refine ⟨k.toNat, by omega, a.toNat, by omega, b.toNat, by omega, ?_⟩
  rw [Int.toNat_of_nonneg h0.1, Int.toNat_of_nonneg h1.1, Int.toNat_of_nonneg h2.1]
structure KnOk (F : List P2) (L : P2) (kn : List (Int × P2)) : Prop where
  nd : kn.Nodup
  ok : ∀ x ∈ kn, (0 ≤ x.1 ∧ x.1 ≤ F.length) ∧ (0 ≤ x.2.1 ∧ x.2.1 ≤ L.1) ∧ (0 ≤ x.2.2 ∧ x.2.2 ≤ L.2) ∧ timesR (F.drop (F.length - x.1.toNat)) x.2 = none
theorem KnOk.len {F : List P2} {L : P2} {kn : List (Int × P2)} (h : KnOk F L kn) : kn.length ≤ (F.length + 1) * ((L.1.toNat + 1) * (L.2.toNat + 1)) := by
  rw [← box_len]
  exact nodup_le h.nd fun x hx => mem_box (h.ok x hx).1 (h.ok x hx).2.1 (h.ok x hx).2.2.1
theorem set_same {S : Store} {n : Nat} {c : Cell} (h : S[n]? = some c) : S.set n c = S := by
  apply List.ext_getElem?
  intro j
  rw [List.getElem?_set]
  split
  · rename_i e1; subst e1
    rw [if_pos (List.getElem?_eq_some_iff.mp h).1, h]
  · rfl
theorem set_get {S : Store} {n : Nat} {c c' : Cell} (h : S[n]? = some c) : (S.set n c')[n]? = some c' := by
  rw [List.getElem?_set_self (List.getElem?_eq_some_iff.mp h).1]
theorem set_set' {S : Store} {n : Nat} {c c' : Cell} : (S.set n c).set n c' = S.set n c' := List.set_set ..
def envT (st l : D) (n : Nat) (x3 x4 x5 : Option D) : EnvD := [some st, some l, some (.ref n), x3, x4, x5]
theorem q0 (p : P2) (S : Store) : opSub2 (pairD p) (.int 0) S = some (.int p.1, S) := by unfold pairD; rw [opSub2_tup, at0]; rfl
theorem q1 (p : P2) (S : Store) : opSub2 (pairD p) (.int 1) S = some (.int p.2, S) := by unfold pairD; rw [opSub2_tup, at1]; rfl
/-- the loop over how often the first step is taken -/
theorem times_loop {rec : List D → M D} {F : List P2} {L s : P2} {r : List P2} {l : D} {n : Nat} (hs : 0 ≤ s.1 ∧ 0 ≤ s.2 ∧ s ≠ (0, 0)) (hrl : r.length ≤ 100)
    (hrec : ∀ (h : P2) (S : Store) (kn : List (Int × P2)), (0 ≤ h.1 ∧ h.1 ≤ L.1) → (0 ≤ h.2 ∧ h.2 ≤ L.2) → S[n]? = some (.dct (stD kn)) → KnOk F L kn →
      ∃ kn', KnOk F L kn' ∧ rec [.tup (r.map pairD), pairD h, .ref n] S = some (resD (timesR r h), S.set n (.dct (stD kn')))) :
    ∀ (k : Nat) (m : Int) (h : P2) (S : Store) (kn : List (Int × P2)) (x5 : Option D), h.1 ≤ L.1 → h.2 ≤ L.2 → (0 ≤ h.1 ∧ 0 ≤ h.2 → h.1.toNat + h.2.toNat < k) → S[n]? = some (.dct (stD kn)) → KnOk F L kn →
      ∃ kn', KnOk F L kn' ∧ match tryR (timesR r) s k m h with
        | some ts => sWhile (tAndD (tOf (eBin opGe (eBin opSub2 (eV 4) (eC (.int 0))) (eC (.int 0)))) (tOf (eBin opGe (eBin opSub2 (eV 4) (eC (.int 1))) (eC (.int 0))))) (l1_times_for rec) (envT (.tup ((s :: r).map pairD)) l n (some (.int m)) (some (pairD h)) x5) S = some (.rt (.tup (ts.map .int)) (S.set n (.dct (stD kn'))))
        | none => ∃ x3 x4 x5', sWhile (tAndD (tOf (eBin opGe (eBin opSub2 (eV 4) (eC (.int 0))) (eC (.int 0)))) (tOf (eBin opGe (eBin opSub2 (eV 4) (eC (.int 1))) (eC (.int 0))))) (l1_times_for rec) (envT (.tup ((s :: r).map pairD)) l n (some (.int m)) (some (pairD h)) x5) S = some (.nx (envT (.tup ((s :: r).map pairD)) l n x3 x4 x5') (S.set n (.dct (stD kn')))) := by
  have test : ∀ (m : D) (h : P2) (S : Store) (x5 : Option D), tAndD (tOf (eBin opGe (eBin opSub2 (eV 4) (eC (.int 0))) (eC (.int 0)))) (tOf (eBin opGe (eBin opSub2 (eV 4) (eC (.int 1))) (eC (.int 0)))) (envT (.tup ((s :: r).map pairD)) l n (some m) (some (pairD h)) x5) S = some (decide (0 ≤ h.1 ∧ 0 ≤ h.2), S) := fun m h S x5 => by
    unfold envT
    by_cases h1 : 0 ≤ h.1 <;> simp [q0, q1, h1]
  intro k
  induction k with
  | zero =>
    intro m h S kn x5 b1 b2 hk hS hkn
    have hn : ¬ (0 ≤ h.1 ∧ 0 ≤ h.2) := fun z => absurd (hk z) (Nat.not_lt_zero _)
    refine ⟨kn, hkn, ?_⟩
    simp only [tryR]
    refine ⟨some (.int m), some (pairD h), x5, ?_⟩
    rw [sWhile_eq (test _ h S x5), if_neg (by simpa using hn), set_same hS]
  | succ k ih =>
    intro m h S kn x5 b1 b2 hk hS hkn
    by_cases hn : 0 ≤ h.1 ∧ 0 ≤ h.2
    · obtain ⟨kn1, hk1, e1⟩ := hrec h S kn ⟨hn.1, b1⟩ ⟨hn.2, b2⟩ hS hkn
      have hsl : cutD ((s :: r).map pairD) (some 1) none = r.map pairD := by
        rw [cutD_from (by decide) (by simp)]; rfl
      have hsub : ∀ S2 : Store, opSub2 (.tup ((s :: r).map pairD)) (.int 0) S2 = some (pairD s, S2) := fun S2 => by rw [List.map_cons, opSub2_tup, at0]; rfl
      have hS1 : (S.set n (.dct (stD kn1)))[n]? = some (.dct (stD kn1)) := set_get hS
      simp only [tryR, if_pos hn]
      cases hr : timesR r h with
      | some ts =>
        rw [hr] at e1
        refine ⟨kn1, hk1, ?_⟩
        rw [sWhile_eq (test _ h S x5), if_pos (by simpa using hn)]
        have hlen : ts.length ≤ 1000000 := by
          have : ∀ (r : List P2) (l : P2) (ts : List Int), timesR r l = some ts → ts.length = r.length := by
            intro r
            induction r with
            | nil => intro l ts e; simp only [timesR] at e; split at e <;> simp_all
            | cons s r ihr =>
              intro l ts e
              simp only [timesR] at e
              have : ∀ (k : Nat) (m : Int) (h : P2), tryR (timesR r) s k m h = some ts → ts.length = r.length + 1 := by
                intro k
                induction k with
                | zero => intro m h e; simp [tryR] at e
                | succ k ihk =>
                  intro m h e
                  simp only [tryR] at e
                  split at e
                  · split at e
                    · rename_i w hw
                      cases e
                      rw [List.length_cons, ihr _ _ hw]
                    · exact ihk _ _ e
                  · cases e
              exact this _ _ _ e
          rw [this r h ts hr]; omega
        have body : l1_times_for rec (envT (.tup ((s :: r).map pairD)) l n (some (.int m)) (some (pairD h)) x5) S = some (.rt (.tup (.int m :: ts.map .int)) (S.set n (.dct (stD kn1)))) := by
          simp only [l1_times_for]
          unfold envT
          have hadd : ∀ S2 : Store, opAdd false (.tup [.int m]) (.tup (ts.map .int)) S2 = some (.tup (.int m :: ts.map .int), S2) := fun S2 => opAdd_tup (by rw [List.length_map, List.length_singleton, sizeLine_eq]; omega)
          simp [opSl, hsl, e1, resD, opIs, hadd, -List.map_cons]
        rw [body]
        simp
      | none =>
        rw [hr] at e1
        have lt : (0 ≤ (subP h s).1 ∧ 0 ≤ (subP h s).2) → (subP h s).1.toNat + (subP h s).2.toNat < k := fun z => by
          have := hk hn
          have hne : ¬ (s.1 = 0 ∧ s.2 = 0) := fun w => hs.2.2 (Prod.ext w.1 w.2)
          simp only [subP] at z ⊢
          omega
        obtain ⟨kn2, hk2, e2⟩ := ih (m + 1) (subP h s) (S.set n (.dct (stD kn1))) kn1 (some .non) (by simp only [subP]; omega) (by simp only [subP]; omega) lt hS1 hk1
        refine ⟨kn2, hk2, ?_⟩
        have body : l1_times_for rec (envT (.tup ((s :: r).map pairD)) l n (some (.int m)) (some (pairD h)) x5) S = some (.nx (envT (.tup ((s :: r).map pairD)) l n (some (.int (m + 1))) (some (pairD (subP h s))) (some .non)) (S.set n (.dct (stD kn1)))) := by
          simp only [l1_times_for]
          unfold envT
          simp [opSl, hsl, e1, resD, opIs, hsub, q0, q1, -List.map_cons]
          rfl
        rw [sWhile_eq (test _ h S x5), if_pos (by simpa using hn), body]
        simp only [Option.bind_some, again_nx]
        rw [set_set'] at e2
        exact e2
    · refine ⟨kn, hkn, ?_⟩
      simp only [tryR, if_neg hn]
      refine ⟨some (.int m), some (pairD h), x5, ?_⟩
      rw [sWhile_eq (test _ h S x5), if_neg (by simpa using hn), set_same hS]
theorem times_ok {F : List P2} {L : P2} (hF : goodSt F) (hFl : F.length ≤ 100) (hbox : (F.length + 1) * ((L.1.toNat + 1) * (L.2.toNat + 1)) < 16777216) {n : Nat} : ∀ (d : Nat) (r : List P2), r.length < d → r = F.drop (F.length - r.length) → r.length ≤ F.length →
    ∀ (h : P2) (S : Store) (kn : List (Int × P2)), (0 ≤ h.1 ∧ h.1 ≤ L.1) → (0 ≤ h.2 ∧ h.2 ≤ L.2) → S[n]? = some (.dct (stD kn)) → KnOk F L kn →
      ∃ kn', KnOk F L kn' ∧ g_times_for d [.tup (r.map pairD), pairD h, .ref n] S = some (resD (timesR r h), S.set n (.dct (stD kn'))) := by
  intro d
  induction d with
  | zero => intro r hr; exact absurd hr (Nat.not_lt_zero _)
  | succ d ih =>
    intro r hr hsuf hle h S kn b1 b2 hS hkn
    have hz : ∀ S2 : Store, opEq false (pairD h) (.tup [.int 0, .int 0]) S2 = some (.bl (decide (h = (0, 0))), S2) := fun S2 => by
      have := opEq_pair (neg := false) (p := h) (q := (0, 0)) (S := S2)
      simpa [pairD] using this
    cases r with
    | nil =>
      refine ⟨kn, hkn, ?_⟩
      rw [set_same hS]
      simp only [g_times_for, runDef, b_times_for, timesR]
      by_cases h0 : h = (0, 0)
      · have hz1 : opEq false (pairD h) (.tup [.int 0, .int 0]) S = some (.bl true, S) := by rw [hz S]; simp [h0]
        rw [if_pos h0]
        simp [fLen, hz1, resD]
      · have hz1 : opEq false (pairD h) (.tup [.int 0, .int 0]) S = some (.bl false, S) := by rw [hz S]; simp [h0]
        rw [if_neg h0]
        simp [fLen, hz1, resD]
    | cons s r =>
      have hs : 0 ≤ s.1 ∧ 0 ≤ s.2 ∧ s ≠ (0, 0) := hF s (by
        have : s ∈ F.drop (F.length - (s :: r).length) := by rw [← hsuf]; exact List.mem_cons_self
        exact List.mem_of_mem_drop this)
      have hsuf2 : r = F.drop (F.length - r.length) := by
        have h1 : (s :: r).drop 1 = (F.drop (F.length - (s :: r).length)).drop 1 := congrArg (List.drop 1) hsuf
        rw [List.drop_drop] at h1
        simp only [List.length_cons, List.drop_succ_cons, List.drop_zero] at h1 hle
        rw [show F.length - (r.length + 1) + 1 = F.length - r.length by omega] at h1
        exact h1
      simp only [List.length_cons] at hr hle
      have hlen : ∀ S2 : Store, fLen [.tup ((s :: r).map pairD)] S2 = some (.int (r.length + 1 : Nat), S2) := fun S2 => by simp [fLen]
      have hkey : ∀ (b : Bool), ((((r.length + 1 : Nat) : Int), h) ∈ kn ↔ b = true) → opIn false (.tup [.int (r.length + 1 : Nat), pairD h]) (.ref n) S = some (.bl b, S) := fun b hb => by
        have := opIn_st (α := Int × P2) false (S := S) (n := n) (l := kn) (((r.length + 1 : Nat) : Int), h) hS
        rw [Bool.false_bne] at this
        have hd : ∀ i : Decidable ((((r.length + 1 : Nat) : Int), h) ∈ kn), @decide _ i = b := fun i => by
          cases b with
          | false => exact decide_eq_false fun z => by cases hb.mp z
          | true => exact decide_eq_true (hb.mpr rfl)
        rw [hd] at this
        exact this
      by_cases hm : ((((r.length + 1 : Nat) : Int), h) ∈ kn)
      · refine ⟨kn, hkn, ?_⟩
        have hno : timesR (s :: r) h = none := by
          have := (hkn.ok _ hm).2.2.2
          simp only [Int.toNat_natCast] at this
          rw [show r.length + 1 = (s :: r).length from rfl, ← hsuf] at this
          exact this
        rw [hno, set_same hS]
        have hk2 := hkey true ⟨fun _ => rfl, fun _ => hm⟩
        clear hkey hno hsuf ih
        generalize hT : D.tup (List.map pairD (s :: r)) = T at hlen ⊢
        have hK0 : ((r.length + 1 : Nat) : Int) ≠ 0 := by omega
        generalize ((r.length + 1 : Nat) : Int) = K at hlen hk2 hK0
        simp only [g_times_for, runDef, b_times_for]
        simp [hlen, hk2, resD, hK0]
      · obtain ⟨kn1, hk1, e1⟩ := times_loop (rec := g_times_for d) (F := F) (L := L) (s := s) (r := r) (l := pairD h) (n := n) hs (by omega) (fun h' S' kn' a1 a2 a3 a4 => ih r (by omega) hsuf2 (by omega) h' S' kn' a1 a2 a3 a4)
          (fuelP h) 0 h S kn none b1.2 b2.2 (fun _ => by unfold fuelP; omega) hS hkn
        have hk2 := hkey false ⟨fun z => absurd z hm, fun z => by cases z⟩
        have etr : timesR (s :: r) h = tryR (timesR r) s (fuelP h) 0 h := rfl
        rw [etr]
        unfold envT at e1
        cases ht : tryR (timesR r) s (fuelP h) 0 h with
        | some ts =>
          rw [ht] at e1
          refine ⟨kn1, hk1, ?_⟩
          dsimp only at e1
          clear hkey hsuf ih
          generalize hT : D.tup (List.map pairD (s :: r)) = T at hlen e1 ⊢
          have hK0 : ((r.length + 1 : Nat) : Int) ≠ 0 := by omega
          generalize ((r.length + 1 : Nat) : Int) = K at hlen hk2 hK0
          simp only [g_times_for, runDef, b_times_for]
          simp [hlen, hk2, e1, resD, hK0]
        | none =>
          rw [ht] at e1
          obtain ⟨x3, x4, x5', e1⟩ := e1
          have hS1 : (S.set n (.dct (stD kn1)))[n]? = some (.dct (stD kn1)) := set_get hS
          have hl := hk1.len
          have hput : stPut (.ref n) (.tup [.int (r.length + 1 : Nat), pairD h]) (.bl true) (S.set n (.dct (stD kn1))) = some ((S.set n (.dct (stD kn1))).set n (.dct (stD (ins kn1 (((r.length + 1 : Nat) : Int), h))))) :=
            stPut_st (α := Int × P2) (((r.length + 1 : Nat) : Int), h) hS1 (by omega)
          rw [set_set'] at hput
          refine ⟨ins kn1 (((r.length + 1 : Nat) : Int), h), ⟨ins_nodup hk1.nd, fun x hx => ?_⟩, ?_⟩
          · rcases mem_ins.mp hx with hx | rfl
            · exact hk1.ok x hx
            · refine ⟨⟨by omega, by dsimp only; omega⟩, b1, b2, ?_⟩
              simp only [Int.toNat_natCast]
              rw [show r.length + 1 = (s :: r).length from rfl, ← hsuf, etr, ht]
          · clear hkey hsuf ih
            generalize hT : D.tup (List.map pairD (s :: r)) = T at hlen e1 ⊢
            have hK0 : ((r.length + 1 : Nat) : Int) ≠ 0 := by omega
            generalize ((r.length + 1 : Nat) : Int) = K at hlen hk2 hK0 hput ⊢
            simp only [g_times_for, runDef, b_times_for]
            simp [hlen, hk2, e1, hput, resD, hK0]
theorem r_how_in : Refines g_how_in p_how_in := refines_pure (fun x h S => by
  obtain ⟨f, c⟩ := x
  obtain ⟨h1, h2, h3⟩ := h
  dsimp only at h1 h2 h3
  have hs0 : ∀ S2 : Store, opSub2 (fanD f) (.int 0) S2 = some (pairD f.1, S2) := fun S2 => by unfold fanD; rw [opSub2_tup, at0]; rfl
  have hs1 : ∀ S2 : Store, opSub2 (fanD f) (.int 1) S2 = some (.tup (f.2.map pairD), S2) := fun S2 => by unfold fanD; rw [opSub2_tup, at1]; rfl
  have hp : ∀ a b : Int, D.tup [.int a, .int b] = pairD (a, b) := fun _ _ => rfl
  show ∃ j, g_how_in [fanD f, pairD c] S = some (resD (howF f c), S ++ j)
  unfold howF
  dsimp only
  by_cases hn : (subP c f.1).1 < 0 ∨ (subP c f.1).2 < 0
  · refine ⟨[], ?_⟩
    rw [if_pos hn]
    simp only [g_how_in, runDef, b_how_in]
    simp only [subP] at hn
    by_cases h4 : c.1 - f.1.1 < 0
    · simp [hs0, q0, q1, hp, h4, resD]
    · have h5 : c.2 - f.1.2 < 0 := by omega
      simp [hs0, q0, q1, hp, h4, h5, resD]
  · rw [if_neg hn]
    have hn' : ¬ (c.1 - f.1.1 < 0) ∧ ¬ (c.2 - f.1.2 < 0) := by simp only [subP] at hn; omega
    obtain ⟨kn', _, e1⟩ := times_ok (F := f.2) (L := subP c f.1) h1 (by omega) (by simp only [subP]; rw [Nat.mul_assoc] at h3; exact h3) (n := S.length) 64 f.2 (by omega) (by simp) (Nat.le_refl _) (subP c f.1) (S ++ [.dct []]) []
      ⟨by simp only [subP]; omega, Int.le_refl _⟩ ⟨by simp only [subP]; omega, Int.le_refl _⟩ at_len ⟨List.nodup_nil, by simp⟩
    rw [set_len] at e1
    simp only [subP] at e1 ⊢
    refine ⟨[.dct (stD kn')], ?_⟩
    simp only [g_how_in, runDef, b_how_in]
    simp [hs0, hs1, q0, q1, hp, hn', e1]) fun x h n => by
  cases hx : howF x.1 x.2 with
  | none => simp [resD, D.low]
  | some ts =>
    simp only [resD]
    exact low_noB _ (by rw [D.noB]; exact noBs_map _ fun p _ => rfl)
theorem how_in_r {f : Fan} {c : P2} (h : okHow (f, c)) (S : Store) : p_how_in [fanD f, pairD c] S = some (resD (howF f c), S) :=
  pureP_r (enc := fun x : Fan × P2 => [fanD x.1, pairD x.2]) (fun a b e => by
    obtain ⟨a1, a2⟩ := a; obtain ⟨b1, b2⟩ := b
    simp only [List.cons.injEq, pairD_inj, and_true] at e
    rw [fanD_inj _ _ e.1, e.2]) (a := (f, c)) h S
/-! ### what that means -/
def mulP (m : Int) (s : P2) : P2 := (m * s.1, m * s.2)
/-- what comes of the steps -/
def totP : List P2 → List Int → P2
  | [], _ => (0, 0)
  | _ :: _, [] => (0, 0)
  | s :: r, m :: ms => addP (mulP m s) (totP r ms)
theorem try_sound {f : P2 → Option (List Int)} {s : P2} : ∀ (k : Nat) (m : Int) (h : P2) (ts : List Int), tryR f s k m h = some ts → ∃ (j : Nat) (r : List Int), ts = (m + j) :: r ∧ f (subP h (mulP j s)) = some r
  | 0, _, _, _, e => by simp [tryR] at e
  | k + 1, m, h, ts, e => by
    simp only [tryR] at e
    split at e
    · split at e
      · rename_i w hw
        cases e
        exact ⟨0, w, by simp, by simpa [subP, mulP] using hw⟩
      · obtain ⟨j, r, e1, e2⟩ := try_sound k _ _ _ e
        refine ⟨j + 1, r, by rw [e1]; simp; omega, ?_⟩
        have : subP h (mulP ((j + 1 : Nat) : Int) s) = subP (subP h s) (mulP j s) := by
          simp only [subP, mulP, Prod.mk.injEq, Int.natCast_add, Int.add_mul]
          constructor <;> simp <;> omega
        rw [this]; exact e2
    · cases e
theorem times_sound : ∀ (r : List P2) (l : P2) (ts : List Int), timesR r l = some ts → ts.length = r.length ∧ (∀ t ∈ ts, 0 ≤ t) ∧ totP r ts = l
  | [], l, ts, e => by
    simp only [timesR] at e
    split at e
    · rename_i h; cases e; exact ⟨rfl, by simp, h.symm⟩
    · cases e
  | s :: r, l, ts, e => by
    obtain ⟨j, w, rfl, e2⟩ := try_sound _ _ _ _ e
    obtain ⟨h1, h2, h3⟩ := times_sound r _ _ e2
    refine ⟨by rw [List.length_cons, List.length_cons, h1], fun t ht => ?_, ?_⟩
    · rcases List.mem_cons.mp ht with rfl | ht
      · omega
      · exact h2 t ht
    · rw [totP, h3]
      simp only [addP, mulP, subP]
      ext <;> simp <;> omega
theorem try_complete {f : P2 → Option (List Int)} {s : P2} (hs : 0 ≤ s.1 ∧ 0 ≤ s.2 ∧ s ≠ (0, 0)) : ∀ (k : Nat) (m : Int) (h : P2), (0 ≤ h.1 ∧ 0 ≤ h.2 → h.1.toNat + h.2.toNat < k) → tryR f s k m h = none → ∀ j : Nat, 0 ≤ (subP h (mulP j s)).1 → 0 ≤ (subP h (mulP j s)).2 → f (subP h (mulP j s)) = none
  | 0, _, h, hk, _, j, h1, h2 => by
    have a1 : 0 ≤ (j : Int) * s.1 := Int.mul_nonneg (by omega) hs.1
    have a2 : 0 ≤ (j : Int) * s.2 := Int.mul_nonneg (by omega) hs.2.1
    simp only [subP, mulP] at h1 h2
    exact absurd (hk ⟨by omega, by omega⟩) (Nat.not_lt_zero _)
  | k + 1, m, h, hk, e, j, h1, h2 => by
    have a1 : 0 ≤ (j : Int) * s.1 := Int.mul_nonneg (by omega) hs.1
    have a2 : 0 ≤ (j : Int) * s.2 := Int.mul_nonneg (by omega) hs.2.1
    have hn : 0 ≤ h.1 ∧ 0 ≤ h.2 := by simp only [subP, mulP] at h1 h2; omega
    simp only [tryR, if_pos hn] at e
    split at e
    · cases e
    · rename_i hw
      cases j with
      | zero => simpa [subP, mulP] using hw
      | succ j =>
        have this : subP h (mulP ((j + 1 : Nat) : Int) s) = subP (subP h s) (mulP j s) := by
          simp only [subP, mulP, Prod.mk.injEq, Int.natCast_add, Int.add_mul]
          constructor <;> simp <;> omega
        rw [this] at h1 h2 ⊢
        refine try_complete hs k _ _ (fun z => ?_) e j h1 h2
        have := hk hn
        have hne : ¬ (s.1 = 0 ∧ s.2 = 0) := fun w => hs.2.2 (Prod.ext w.1 w.2)
        simp only [subP] at z ⊢
        omega
theorem tot_nonneg : ∀ (r : List P2) (ts : List Int), goodSt r → (∀ t ∈ ts, 0 ≤ t) → 0 ≤ (totP r ts).1 ∧ 0 ≤ (totP r ts).2
  | [], _, _, _ => by simp [totP]
  | _ :: _, [], _, _ => by simp [totP]
  | s :: r, m :: ms, hg, ht => by
    have h1 := tot_nonneg r ms (fun p hp => hg p (List.mem_cons_of_mem _ hp)) fun t h => ht t (List.mem_cons_of_mem _ h)
    have hs := hg s List.mem_cons_self
    have hm := ht m List.mem_cons_self
    have a1 : 0 ≤ m * s.1 := Int.mul_nonneg hm hs.1
    have a2 : 0 ≤ m * s.2 := Int.mul_nonneg hm hs.2.1
    simp only [totP, addP, mulP]; omega
theorem times_complete : ∀ (r : List P2) (l : P2), goodSt r → timesR r l = none → ∀ ts : List Int, ts.length = r.length → (∀ t ∈ ts, 0 ≤ t) → totP r ts ≠ l
  | [], l, _, e, ts, _, _ => by
    simp only [timesR] at e
    split at e
    · cases e
    · rename_i h; exact fun z => h z.symm
  | s :: r, l, hg, e, [], hl, _ => by simp at hl
  | s :: r, l, hg, e, m :: ms, hl, ht => by
    have hg' : goodSt r := fun p hp => hg p (List.mem_cons_of_mem _ hp)
    have hms : ∀ t ∈ ms, 0 ≤ t := fun t h => ht t (List.mem_cons_of_mem _ h)
    have hm := ht m List.mem_cons_self
    intro z
    obtain ⟨j, rfl⟩ : ∃ j : Nat, m = j := ⟨m.toNat, by omega⟩
    have hsub : totP r ms = subP l (mulP j s) := by
      rw [← z, totP]; simp only [addP, mulP, subP]; ext <;> simp <;> omega
    have hn := tot_nonneg r ms hg' hms
    have e2 : timesR r (subP l (mulP j s)) = none := try_complete (hg s List.mem_cons_self) (fuelP l) 0 l (fun _ => by unfold fuelP; omega) e j (by rw [← hsub]; exact hn.1) (by rw [← hsub]; exact hn.2)
    exact times_complete r _ hg' e2 ms (by simpa using hl) hms hsub
/-- a count is a fan's -/
def fanHas (f : Fan) (c : P2) : Prop := ∃ ts : List Int, ts.length = f.2.length ∧ (∀ t ∈ ts, 0 ≤ t) ∧ addP f.1 (totP f.2 ts) = c
theorem howF_some {f : Fan} {c : P2} {ts : List Int} (h : howF f c = some ts) : ts.length = f.2.length ∧ (∀ t ∈ ts, 0 ≤ t) ∧ addP f.1 (totP f.2 ts) = c := by
  unfold howF at h
  dsimp only at h
  split at h
  · cases h
  · obtain ⟨h1, h2, h3⟩ := times_sound _ _ _ h
    refine ⟨h1, h2, ?_⟩
    rw [h3]; simp only [addP, subP]; ext <;> simp <;> omega
theorem howF_none {f : Fan} {c : P2} (hg : goodSt f.2) (h : howF f c = none) : ¬ fanHas f c := by
  rintro ⟨ts, h1, h2, h3⟩
  have hn := tot_nonneg f.2 ts hg h2
  have hsub : totP f.2 ts = subP c f.1 := by rw [← h3]; simp only [addP, subP]; ext <;> simp <;> omega
  unfold howF at h
  dsimp only at h
  rw [if_neg (by rw [← hsub]; omega)] at h
  exact times_complete _ _ hg h ts h1 h2 hsub
theorem howF_iff {f : Fan} {c : P2} (hg : goodSt f.2) : (howF f c).isSome = true ↔ fanHas f c := by
  constructor
  · intro h
    obtain ⟨ts, h⟩ := Option.isSome_iff_exists.mp h
    exact ⟨ts, howF_some h⟩
  · intro h
    cases e : howF f c with
    | none => exact absurd h (howF_none hg e)
    | some _ => rfl
end Ev
end L2

namespace L2
namespace Ev
open PyProof.Rows PySem.Spec PySem L2
variable [Tb]
/-! ### plain values: no places, no addresses; lengths and numbers bounded -/
def D.isPl : D → Bool
  | .ref _ => false
  | .adr _ => false
  | .scr _ => false
  | _ => true
def intD : D → Int
  | .int i => i
  | _ => 0
mutual
def D.pl (n : Nat) : D → Bool
  | .non => true
  | .bl _ => true
  | .int i => decide (i.natAbs ≤ n)
  | .str x => decide (x.length ≤ n)
  | .tup ds => decide (ds.length ≤ n) && D.pls n ds
  | .lst ds => decide (ds.length ≤ n) && D.pls n ds
  | _ => false
def D.pls (n : Nat) : List D → Bool
  | [] => true
  | d :: ds => D.pl n d && D.pls n ds
end
theorem pls_all {n : Nat} : ∀ {ds : List D}, D.pls n ds = true ↔ ∀ d ∈ ds, D.pl n d = true
  | [] => by simp [D.pls]
  | d :: ds => by simp [D.pls, pls_all (ds := ds)]
theorem pl_isPl {n : Nat} {d : D} (h : D.pl n d = true) : D.isPl d = true := by cases d <;> simp_all [D.pl, D.isPl]
mutual
theorem pl_mono {n k : Nat} (hk : n ≤ k) : ∀ d : D, D.pl n d = true → D.pl k d = true
  | .non, _ => rfl
  | .bl _, _ => rfl
  | .int i, h => by simp only [D.pl, decide_eq_true_eq] at *; omega
  | .str x, h => by simp only [D.pl, decide_eq_true_eq] at *; omega
  | .tup ds, h => by simp only [D.pl, decide_eq_true_eq, Bool.and_eq_true] at *; exact ⟨by omega, pls_mono hk ds h.2⟩
  | .lst ds, h => by simp only [D.pl, decide_eq_true_eq, Bool.and_eq_true] at *; exact ⟨by omega, pls_mono hk ds h.2⟩
  | .ref _, h => by simp [D.pl] at h
  | .adr _, h => by simp [D.pl] at h
  | .scr _, h => by simp [D.pl] at h
theorem pls_mono {n k : Nat} (hk : n ≤ k) : ∀ ds : List D, D.pls n ds = true → D.pls k ds = true
  | [], _ => rfl
  | d :: ds, h => by simp only [D.pls, Bool.and_eq_true] at *; exact ⟨pl_mono hk d h.1, pls_mono hk ds h.2⟩
end
theorem typ_pl {S : Store} {d : D} (h : D.isPl d = true) : typD S d ∈ ["NoneType", "bool", "int", "str", "tuple", "list"] := by
  cases d <;> simp_all [D.isPl, typD]
/-- isinstance of plain values -/
def isiD (T : String) : D → Bool
  | .non => isiT "NoneType" T
  | .bl _ => isiT "bool" T
  | .int _ => isiT "int" T
  | .str _ => isiT "str" T
  | .tup _ => isiT "tuple" T
  | .lst _ => isiT "list" T
  | _ => false
theorem isi_pl {S : Store} {d : D} {T : String} (h : D.isPl d = true) : isiT (typD S d) T = isiD T d := by
  cases d <;> simp_all [D.isPl, typD, isiD]
theorem eIsi_pl {T : String} {fa : ME} {ρ : EnvD} {S S1 : Store} {d : D} (h : D.isPl d = true) (e : fa ρ S = some (d, S1)) : eIsi T fa ρ S = some (.bl (isiD T d), S1) := by
  rw [eIsi_r, e]
  simp only [Option.bind_some]
  rw [if_pos (typ_pl h), isi_pl h]
theorem low_pl {n : Nat} {k : Nat} : ∀ d : D, D.pl n d = true → D.low k d = true := by
  intro d
  refine D.rec (motive_1 := fun d => D.pl n d = true → D.low k d = true) (motive_2 := fun ds => D.pls n ds = true → D.lows k ds = true) ?_ ?_ ?_ ?_ ?_ ?_ ?_ ?_ ?_ ?_ ?_ d
  all_goals simp_all [D.pl, D.pls, D.low, D.lows]
/-! ### papers -/
def howL : Nat → List Fan → P2 → Option (Int × List Int)
  | _, [], _ => none
  | i, f :: r, c => match howF f c with
    | some ts => some ((i : Int), ts)
    | none => howL (i + 1) r c
def paperD : Option (Int × List Int) → D
  | none => .non
  | some (i, ts) => .tup [.int i, .tup (ts.map .int)]
def okHowS (x : List Fan × P2) : Prop := (∀ f ∈ x.1, okHow (f, x.2)) ∧ x.1.length ≤ 1000000
noncomputable def p_how : List D → M D := pureP (fun x : List Fan × P2 => [spreadD x.1, pairD x.2]) okHowS fun x => paperD (howL 0 x.1 x.2)
/-- a whole number from 0 on -/
def whole : D → Bool
  | .int i => decide (0 ≤ i)
  | _ => false
noncomputable def p_is_whole : List D → M D := pureP (fun x : D => [x]) (fun x => D.isPl x = true) fun x => .bl (whole x)
def comes (f : Fan) (ts : List Int) : P2 := (f.2.zip ts).foldl (fun c p => addP c (mulP p.2 p.1)) f.1
def small2 (p : P2) : Prop := small64 p.1 = true ∧ small64 p.2 = true
def okCm (x : Fan × List Int) : Prop := ∀ p ∈ x.1.2, small2 p
noncomputable def p_comes_to : List D → M D := pureP (fun x : Fan × List Int => [fanD x.1, .tup (x.2.map .int)]) okCm fun x => pairD (comes x.1 x.2)
def showsD (s : List Fan) (c : P2) (t : D) : Bool := match t with
  | .tup [.int i, .tup ms] => decide (0 ≤ i) && (match s[i.toNat]? with
    | some f => decide (ms.length = f.2.length) && ms.all whole && decide (comes f (ms.map intD) = c)
    | none => false)
  | _ => false
def okSh (x : List Fan × P2 × D) : Prop := (∀ f ∈ x.1, ∀ p ∈ f.2, small2 p) ∧ D.pl 1000 x.2.2 = true
noncomputable def p_shows_how : List D → M D := pureP (fun x : List Fan × P2 × D => [spreadD x.1, pairD x.2.1, x.2.2]) okSh fun x => .bl (showsD x.1 x.2.1 x.2.2)
noncomputable def p_law_shows : List D → M D := pureP (fun x : List Fan × P2 × D => [spreadD x.1, pairD x.2.1, x.2.2]) okSh fun x => .bl (showsD x.1 x.2.1 x.2.2)
noncomputable def l1_how : MS := (sSeq (sAsg (eCall 2 p_how_in (aCons (eV 3) (aCons (eV 1) aNil))) (gN 4)) (sIf (tOf (eBin (opIs true) (eV 4) (eC .non))) (sRet (eTup (aCons (eV 2) (aCons (eV 4) aNil)))) sNx))
noncomputable def b_how : MS := (sSeq (sFor (iEnumD (aCons (eV 0) aNil)) (gTupD 2 (gConsD (gN 2) (gConsD (gN 3) gNilD))) l1_how) (sRet (eC .non)))
noncomputable def g_how : List D → M D := runDef 5 b_how
noncomputable def b_is_whole : MS := (sRet (eAnd (eIsi "int" (eV 0)) (eAnd (eNot (eIsi "bool" (eV 0))) (eBin opGe (eV 0) (eC (.int 0))))))
noncomputable def g_is_whole : List D → M D := runDef 1 b_is_whole
noncomputable def l1_comes_to : MS := (sAsg (eCall 2 p_added (aCons (eV 2) (aCons (eTup (aCons (eBin (opMulS false) (eV 4) (eBin opSub2 (eV 3) (eC (.int 0)))) (aCons (eBin (opMulS false) (eV 4) (eBin opSub2 (eV 3) (eC (.int 1)))) aNil))) aNil))) (gN 2))
noncomputable def b_comes_to : MS := (sSeq (sAsg (eBin opSub2 (eV 0) (eC (.int 0))) (gN 2)) (sSeq (sFor (iZipD (aCons (eBin opSub2 (eV 0) (eC (.int 1))) (aCons (eV 1) aNil))) (gTupD 2 (gConsD (gN 3) (gConsD (gN 4) gNilD))) l1_comes_to) (sRet (eV 2))))
noncomputable def g_comes_to : List D → M D := runDef 5 b_comes_to
noncomputable def b_shows_how : MS := (sSeq (sIf (tOrD (tNotD (tOf (eIsi "tuple" (eV 2)))) (tOrD (tOf (eBin (opEq true) (eFn fLen (aCons (eV 2) aNil)) (eC (.int 2)))) (tOrD (tNotD (tOf (eCall 1 p_is_whole (aCons (eBin opSub2 (eV 2) (eC (.int 0))) aNil)))) (tOf (eBin opGe (eBin opSub2 (eV 2) (eC (.int 0))) (eFn fLen (aCons (eV 0) aNil))))))) (sRet (eC (.bl false))) sNx) (sSeq (sAsg (eBin opSub2 (eV 0) (eBin opSub2 (eV 2) (eC (.int 0)))) (gN 3)) (sSeq (sIf (tOrD (tNotD (tOf (eIsi "tuple" (eBin opSub2 (eV 2) (eC (.int 1)))))) (tOf (eBin (opEq true) (eFn fLen (aCons (eBin opSub2 (eV 2) (eC (.int 1))) aNil)) (eFn fLen (aCons (eBin opSub2 (eV 3) (eC (.int 1))) aNil))))) (sRet (eC (.bl false))) sNx) (sSeq (sIf (tNotD (tOf (eFn fAll (aCons (eLc false [4] (iSeq (eBin opSub2 (eV 2) (eC (.int 1)))) (gN 4) tTrue (eCall 1 p_is_whole (aCons (eV 4) aNil))) aNil)))) (sRet (eC (.bl false))) sNx) (sRet (eBin (opEq false) (eCall 2 p_comes_to (aCons (eV 3) (aCons (eBin opSub2 (eV 2) (eC (.int 1))) aNil))) (eV 1)))))))
noncomputable def g_shows_how : List D → M D := runDef 5 b_shows_how
noncomputable def l1_law_shows : MS := (sIf (tOrD (tNotD (tOf (eIsi "int" (eV 3)))) (tOrD (tOf (eIsi "bool" (eV 3))) (tOf (eBin opLt (eV 3) (eC (.int 0)))))) (sRet (eC (.bl false))) sNx)
noncomputable def b_law_shows : MS := (sSeq (sIf (tOrD (tNotD (tOf (eIsi "tuple" (eV 2)))) (tOrD (tOf (eBin (opEq true) (eFn fLen (aCons (eV 2) aNil)) (eC (.int 2)))) (tNotD (tOf (eIsi "tuple" (eBin opSub2 (eV 2) (eC (.int 1)))))))) (sRet (eC (.bl false))) sNx) (sSeq (sFor (iSeq (eBin (opAdd false) (eTup (aCons (eBin opSub2 (eV 2) (eC (.int 0))) aNil)) (eBin opSub2 (eV 2) (eC (.int 1))))) (gN 3) l1_law_shows) (sSeq (sIf (tOrD (tOf (eBin opGe (eBin opSub2 (eV 2) (eC (.int 0))) (eFn fLen (aCons (eV 0) aNil)))) (tOf (eBin (opEq true) (eFn fLen (aCons (eBin opSub2 (eV 2) (eC (.int 1))) aNil)) (eFn fLen (aCons (eBin opSub2 (eBin opSub2 (eV 0) (eBin opSub2 (eV 2) (eC (.int 0)))) (eC (.int 1))) aNil))))) (sRet (eC (.bl false))) sNx) (sSeq (sAsg (eBin opSub2 (eV 0) (eBin opSub2 (eV 2) (eC (.int 0)))) (gTupD 2 (gConsD (gN 4) (gConsD (gN 5) gNilD)))) (sSeq (sAsg (eBin (opAdd false) (eBin opSub2 (eV 4) (eC (.int 0))) (eFn fSum (aCons (eLc false [7, 8] (iZipD (aCons (eBin opSub2 (eV 2) (eC (.int 1))) (aCons (eV 5) aNil))) (gTupD 2 (gConsD (gN 7) (gConsD (gN 8) gNilD))) tTrue (eBin (opMulS false) (eV 7) (eBin opSub2 (eV 8) (eC (.int 0))))) aNil))) (gN 6)) (sSeq (sAsg (eBin (opAdd false) (eBin opSub2 (eV 4) (eC (.int 1))) (eFn fSum (aCons (eLc false [7, 8] (iZipD (aCons (eBin opSub2 (eV 2) (eC (.int 1))) (aCons (eV 5) aNil))) (gTupD 2 (gConsD (gN 7) (gConsD (gN 8) gNilD))) tTrue (eBin (opMulS false) (eV 7) (eBin opSub2 (eV 8) (eC (.int 1))))) aNil))) (gN 9)) (sRet (eBin (opEq false) (eTup (aCons (eV 6) (aCons (eV 9) aNil))) (eV 1)))))))))
noncomputable def g_law_shows : List D → M D := runDef 10 b_law_shows

theorem isi_int {d : D} : isiD "int" d = (match d with | .int _ => true | .bl _ => true | _ => false) := by cases d <;> rfl
theorem isi_bool {d : D} : isiD "bool" d = (match d with | .bl _ => true | _ => false) := by cases d <;> rfl
theorem isi_tuple {d : D} : isiD "tuple" d = (match d with | .tup _ => true | _ => false) := by cases d <;> rfl
theorem isi_str {d : D} : isiD "str" d = (match d with | .str _ => true | _ => false) := by cases d <;> rfl
theorem r_is_whole : Refines g_is_whole p_is_whole := refines_pure (fun d h S => ⟨[], by
  show g_is_whole [d] S = _
  simp only [g_is_whole, runDef, b_is_whole]
  cases d <;> simp_all [D.isPl, isiT, whole]⟩) fun _ _ n => rfl
theorem is_whole_r {d : D} (h : D.isPl d = true) (S : Store) : p_is_whole [d] S = some (.bl (whole d), S) := pureP_r (enc := fun x : D => [x]) (fun a b e => by simpa using e) h S
theorem how_loop {s : List Fan} {c : P2} (x0 x1 : D) (e1 : x1 = pairD c) (S : Store) : ∀ (r : List Fan) (i : Nat) (x2 x3 x4 : Option D) (S : Store), (∀ f ∈ r, okHow (f, c)) →
    match howL i r c with
    | some (j, ts) => forL gYes (gTupD 2 (gConsD (gN 2) (gConsD (gN 3) gNilD))) l1_how (enumD i (r.map fanD)) [some x0, some x1, x2, x3, x4] S = some (.rt (.tup [.int j, .tup (ts.map .int)]) S)
    | none => ∃ ρ, forL gYes (gTupD 2 (gConsD (gN 2) (gConsD (gN 3) gNilD))) l1_how (enumD i (r.map fanD)) [some x0, some x1, x2, x3, x4] S = some (.nx ρ S)
  | [], i, x2, x3, x4, S, _ => ⟨_, rfl⟩
  | f :: r, i, x2, x3, x4, S, h => by
    subst e1
    have hin := fun S : Store => how_in_r (h f List.mem_cons_self) S
    have ih := how_loop (s := s) (c := c) x0 (pairD c) rfl S r (i + 1) (some (.int i)) (some (fanD f)) (some (resD (howF f c))) S fun g hg => h g (List.mem_cons_of_mem _ hg)
    rw [howL, List.map_cons, enumD, forL]
    cases hf : howF f c with
    | some ts =>
      rw [hf] at hin
      simp [gTupD, gConsD, gN, gNilD, l1_how, hin, resD, opIs]
    | none =>
      rw [hf] at hin ih
      dsimp only
      have body : l1_how [some x0, some (pairD c), some (.int i), some (fanD f), x4] S = some (.nx [some x0, some (pairD c), some (.int i), some (fanD f), some (resD none)] S) := by
        simp [l1_how, hin, resD, opIs]
      have tg : gTupD 2 (gConsD (gN 2) (gConsD (gN 3) gNilD)) (.tup [.int i, fanD f]) [some x0, some (pairD c), x2, x3, x4] = some [some x0, some (pairD c), some (.int i), some (fanD f), x4] := rfl
      cases hl : howL (i + 1) r c with
      | some q =>
        rw [hl] at ih
        simp only [gYes_r, if_true, tg, Option.bind_some, body, again_nx]
        exact ih
      | none =>
        rw [hl] at ih
        simp only [gYes_r, if_true, tg, Option.bind_some, body, again_nx]
        exact ih
theorem r_how : Refines g_how p_how := refines_pure (fun x h S => ⟨[], by
  obtain ⟨s, c⟩ := x
  have hl := how_loop (s := s) (c := c) (spreadD s) (pairD c) rfl S s 0 none none none S h.1
  show g_how [spreadD s, pairD c] S = _
  have e0 : spreadD s = .tup (s.map fanD) := rfl
  simp only [g_how, runDef, b_how]
  cases hq : howL 0 s c with
  | some q =>
    rw [hq] at hl
    obtain ⟨j, ts⟩ := q
    dsimp only at hl
    rw [e0] at hl ⊢
    simp [hl, paperD, hq]
  | none =>
    rw [hq] at hl
    obtain ⟨ρ, hl⟩ := hl
    rw [e0] at hl ⊢
    simp [hl, paperD, hq]⟩) fun x h n => by
  cases hx : howL 0 x.1 x.2 with
  | none => rfl
  | some q =>
    refine low_noB _ ?_
    simp only [paperD, D.noB, D.noBs, Bool.true_and, Bool.and_true]
    exact noBs_map _ fun p _ => rfl
theorem how_r {s : List Fan} {c : P2} (h : okHowS (s, c)) (S : Store) : p_how [spreadD s, pairD c] S = some (paperD (howL 0 s c), S) :=
  pureP_r (enc := fun x : List Fan × P2 => [spreadD x.1, pairD x.2]) (fun a b e => by
    obtain ⟨a1, a2⟩ := a; obtain ⟨b1, b2⟩ := b
    simp only [List.cons.injEq, pairD_inj, and_true] at e
    rw [spreadD_inj _ _ e.1, e.2]) (a := (s, c)) h S
/-- a for that may return, the store as it was -/
theorem forL_first {α : Type} {g : Store → Bool} {tg : FG} {body : MS} (enc : α → D) (f : α → Option D) (S : Store) (I : EnvD → Prop) (hg : g S = true) : ∀ (as : List α),
    (∀ a ∈ as, ∀ ρ, I ρ → ∃ ρ1, tg (enc a) ρ = some ρ1 ∧ match f a with
      | some r => body ρ1 S = some (.rt r S)
      | none => ∃ ρ2, (body ρ1 S = some (.nx ρ2 S) ∨ body ρ1 S = some (.ct ρ2 S)) ∧ I ρ2) →
    ∀ ρ, I ρ → match as.findSome? f with
      | some r => forL g tg body (as.map enc) ρ S = some (.rt r S)
      | none => ∃ ρ', forL g tg body (as.map enc) ρ S = some (.nx ρ' S) ∧ I ρ'
  | [], _, ρ, h => ⟨ρ, by rw [List.map_nil, forL, if_pos hg], h⟩
  | a :: as, st, ρ, h => by
    obtain ⟨ρ1, e1, e2⟩ := st a List.mem_cons_self ρ h
    rw [List.findSome?_cons, List.map_cons]
    simp only [forL, hg, if_true, e1, Option.bind_some]
    cases hf : f a with
    | some r =>
      rw [hf] at e2
      dsimp only at e2 ⊢
      rw [e2]; rfl
    | none =>
      rw [hf] at e2
      obtain ⟨ρ2, e2, h2⟩ := e2
      dsimp only
      have ih := forL_first enc f S I hg as (fun b hb => st b (List.mem_cons_of_mem _ hb)) ρ2 h2
      rcases e2 with e2 | e2 <;> (rw [e2]; exact ih)
theorem zipW_map {α β : Type} (f : α → D) (g : β → D) : ∀ (l : List α) (m : List β), List.zipWith zipPair (l.map f) (m.map g) = (l.zip m).map fun p => D.tup [f p.1, g p.2]
  | [], _ => by simp
  | _ :: _, [] => by simp
  | a :: l, b :: m => by simp [zipW_map f g l m, zipPair]
theorem r_comes_to : Refines g_comes_to p_comes_to := refines_pure (fun x h S => ⟨[], by
  obtain ⟨f, ts⟩ := x
  have hs0 : ∀ S2 : Store, opSub2 (fanD f) (.int 0) S2 = some (pairD f.1, S2) := fun S2 => by unfold fanD; rw [opSub2_tup, at0]; rfl
  have hs1 : ∀ S2 : Store, opSub2 (fanD f) (.int 1) S2 = some (.tup (f.2.map pairD), S2) := fun S2 => by unfold fanD; rw [opSub2_tup, at1]; rfl
  show g_comes_to [fanD f, .tup (ts.map .int)] S = _
  obtain ⟨ρ', S', h1, ⟨x3, x4, rfl, rfl⟩, _⟩ := forL_fold (g := gYes) (tg := gTupD 2 (gConsD (gN 3) (gConsD (gN 4) gNilD))) (body := l1_comes_to) (fun p : P2 × Int => D.tup [pairD p.1, .int p.2]) (fun c p => addP c (mulP p.2 p.1))
    (fun as c ρ S2 => (∃ x3 x4, ρ = [some (fanD f), some (.tup (ts.map .int)), some (pairD c), x3, x4] ∧ S2 = S) ∧ ∀ p ∈ as, small2 p.1) (by
      rintro ⟨p, m⟩ as c ρ S2 ⟨⟨x3, x4, rfl, rfl⟩, hp⟩
      have hm := hp (p, m) List.mem_cons_self
      have m1 : ∀ S2 : Store, opMul (.int m) (.int p.1) S2 = some (.int (m * p.1), S2) := fun S2 => opMul_int (.inr hm.1)
      have m2 : ∀ S2 : Store, opMul (.int m) (.int p.2) S2 = some (.int (m * p.2), S2) := fun S2 => opMul_int (.inr hm.2)
      have hp2 : ∀ a b : Int, D.tup [.int a, .int b] = pairD (a, b) := fun _ _ => rfl
      refine ⟨rfl, _, rfl, ?_⟩
      have body : l1_comes_to [some (fanD f), some (.tup (ts.map .int)), some (pairD c), some (pairD p), some (.int m)] S2 = some (.nx [some (fanD f), some (.tup (ts.map .int)), some (pairD (addP c (mulP m p))), some (pairD p), some (.int m)] S2) := by
        simp only [l1_comes_to]
        simp [q0, q1, m1, m2, hp2, added_r, mulP]
      show Turn (l1_comes_to [some (fanD f), some (.tup (ts.map .int)), some (pairD c), some (pairD p), some (.int m)] S2) _
      rw [body]
      exact ⟨⟨_, _, rfl, rfl⟩, fun q hq => hp q (List.mem_cons_of_mem _ hq)⟩) (fun _ _ _ _ => rfl)
    (f.2.zip ts) f.1 [some (fanD f), some (.tup (ts.map .int)), some (pairD f.1), none, none] S ⟨⟨none, none, rfl, rfl⟩, fun p hp => h p.1 (List.of_mem_zip hp).1⟩
  have hz : List.zipWith zipPair (f.2.map pairD) (ts.map .int) = (f.2.zip ts).map fun p => D.tup [pairD p.1, .int p.2] := zipW_map pairD D.int f.2 ts
  simp only [g_comes_to, runDef, b_comes_to]
  simp [hs0, hs1, hz, h1, comes, -List.map_map]⟩) fun x h n => low_noB _ (noB_pair _)
theorem comes_to_r {f : Fan} {ts : List Int} (h : okCm (f, ts)) (S : Store) : p_comes_to [fanD f, .tup (ts.map .int)] S = some (pairD (comes f ts), S) :=
  pureP_r (enc := fun x : Fan × List Int => [fanD x.1, .tup (x.2.map .int)]) (fun a b e => by
    obtain ⟨a1, a2⟩ := a; obtain ⟨b1, b2⟩ := b
    simp only [List.cons.injEq, D.tup.injEq, and_true] at e
    rw [fanD_inj _ _ e.1, map_inj (fun x y e => D.int.inj e) e.2]) (a := (f, ts)) h S
theorem whole_ints : ∀ {ms : List D}, (∀ m ∈ ms, whole m = true) → ms = (ms.map intD).map D.int
  | [], _ => rfl
  | m :: ms, h => by
    have h1 := h m List.mem_cons_self
    have h2 := whole_ints fun x hx => h x (List.mem_cons_of_mem _ hx)
    cases m with
    | int i => rw [List.map_cons, List.map_cons, ← h2]; rfl
    | _ => simp [whole] at h1
theorem r_shows_how : Refines g_shows_how p_shows_how := refines_pure (fun x h S => ⟨[], by
  obtain ⟨s, c, t⟩ := x
  obtain ⟨hs, ht⟩ := h
  dsimp only at hs ht
  show g_shows_how [spreadD s, pairD c, t] S = some (.bl (showsD s c t), S ++ [])
  have hlen : ∀ S2 : Store, fLen [spreadD s] S2 = some (.int s.length, S2) := fun S2 => by simp [spreadD]
  simp only [g_shows_how, runDef, b_shows_how]
  cases t with
  | tup ds =>
    simp only [D.pl, Bool.and_eq_true, decide_eq_true_eq] at ht
    obtain ⟨hl, hp⟩ := ht
    have hp := pls_all.mp hp
    by_cases h2 : ds.length = 2
    · obtain ⟨a, b, rfl⟩ : ∃ a b, ds = [a, b] := by
        match ds, h2 with
        | [a, b], _ => exact ⟨a, b, rfl⟩
      have pa := hp a (by simp)
      have pb := hp b (by simp)
      have hw := fun S : Store => is_whole_r (pl_isPl pa) S
      by_cases hwa : whole a = true
      · obtain ⟨i, rfl⟩ : ∃ i, a = .int i := by cases a <;> simp_all [whole]
        have hi : 0 ≤ i := by simpa [whole] using hwa
        simp only [hwa] at hw
        by_cases hlt : i < s.length
        · have hge : ¬ ((s.length : Int) ≤ i) := by omega
          obtain ⟨f, hf⟩ : ∃ f, s[i.toNat]? = some f := ⟨s[i.toNat]'(by omega), List.getElem?_eq_getElem (by omega)⟩
          have hfm : f ∈ s := List.mem_of_getElem? hf
          have hsub : ∀ S2 : Store, opSub2 (spreadD s) (.int i) S2 = some (fanD f, S2) := fun S2 => sub_tup (f := fanD) hi hf
          have hs1 : ∀ S2 : Store, opSub2 (fanD f) (.int 1) S2 = some (.tup (f.2.map pairD), S2) := fun S2 => by unfold fanD; rw [opSub2_tup, at1]; rfl
          cases b with
          | tup ms =>
            simp only [D.pl, Bool.and_eq_true, decide_eq_true_eq] at pb
            obtain ⟨hml, hmp⟩ := pb
            have hmp := pls_all.mp hmp
            by_cases hlm : ms.length = f.2.length
            · have hc : ∀ (ρ : EnvD), compL gYes [4] (gN 4) tTrue (eCall 1 p_is_whole (aCons (eV 4) aNil)) ms [some (spreadD s), some (pairD c), some (.tup [.int i, .tup ms]), some (fanD f), none] S [] = some (ms.map fun m => D.bl (whole m), S) := fun ρ =>
                compL_map rfl (fun m => D.bl (whole m)) ms (fun m hm => ⟨_, rfl, by simp [wipeD, is_whole_r (pl_isPl (hmp m hm))]⟩) (by rw [sizeLine_eq]; omega)
              have hall : ∀ S2 : Store, fAll [.lst (ms.map fun m => D.bl (whole m))] S2 = some (.bl (ms.all whole), S2) := fun S2 => by
                unfold fAll
                simp only [readOf, listOf, Option.bind_some]
                have : (ms.map fun m => D.bl (whole m)) = (ms.map whole).map D.bl := by rw [List.map_map]; rfl
                rw [this, blsOf_map]
                simp [List.all_map]
              have hnl : newL false (ms.map fun m => D.bl (whole m)) S = some (.lst (ms.map fun m => D.bl (whole m)), S) := newL_f (by rw [List.length_map, sizeLine_eq]; omega)
              by_cases hw2 : ms.all whole = true
              · have hms := whole_ints (fun m hm => (List.all_eq_true.mp hw2) m hm)
                have hco := comes_to_r (f := f) (ts := ms.map intD) (fun p hp => hs f hfm p hp)
                rw [← hms] at hco
                simp [hw, at0, at1, hlen, hge, hsub, hs1, hlm, hc [], hnl, hall, hw2, hco, showsD, hf, hi, isiT]
              · have hw3 : ms.all whole = false := by simpa using hw2
                simp [hw, at0, at1, hlen, hge, hsub, hs1, hlm, hc [], hnl, hall, hw3, showsD, hf, isiT]
            · have hlm' : ¬ ((ms.length : Int) = (f.2.length : Int)) := by omega
              simp [hw, at0, at1, hlen, hge, hsub, hs1, hlm, hlm', showsD, hf, isiT]
          | ref _ => simp [D.pl] at pb
          | adr _ => simp [D.pl] at pb
          | scr _ => simp [D.pl] at pb
          | _ => simp [hw, at0, at1, hlen, hge, hsub, showsD, isiT]
        · have hge : (s.length : Int) ≤ i := by omega
          have hno : s[i.toNat]? = none := List.getElem?_eq_none (by omega)
          have hsd : showsD s c (.tup [.int i, b]) = false := by
            cases b <;> simp [showsD, hno]
          simp [hw, at0, hlen, hge, hsd, isiT]
      · have hwf : whole a = false := by simpa using hwa
        simp only [hwf] at hw
        have hsd : showsD s c (.tup [a, b]) = false := by
          cases a with
          | int i =>
            have : ¬ (0 ≤ i) := by simpa [whole] using hwa
            cases b <;> first | rfl | simp [showsD, this]
          | _ => cases b <;> rfl
        simp [hw, at0, hsd, isiT]
    · have h3 : ¬ ((ds.length : Int) = 2) := by omega
      have hsd : showsD s c (.tup ds) = false := by
        match ds, h2 with
        | [], _ => rfl
        | [_], _ => simp [showsD]
        | [a, b], h => exact absurd rfl h
        | _ :: _ :: _ :: _, _ => simp [showsD]
      simp [fLen, h3, hsd, isiT]
  | ref _ => simp [D.pl] at ht
  | adr _ => simp [D.pl] at ht
  | scr _ => simp [D.pl] at ht
  | _ => simp [showsD, isiT]⟩) fun x h n => rfl
theorem shows_how_r {s : List Fan} {c : P2} {t : D} (h : okSh (s, c, t)) (S : Store) : p_shows_how [spreadD s, pairD c, t] S = some (.bl (showsD s c t), S) :=
  pureP_r (enc := fun x : List Fan × P2 × D => [spreadD x.1, pairD x.2.1, x.2.2]) (fun a b e => by
    obtain ⟨a1, a2, a3⟩ := a; obtain ⟨b1, b2, b3⟩ := b
    simp only [List.cons.injEq, pairD_inj, and_true] at e
    rw [spreadD_inj _ _ e.1, e.2.1, e.2.2]) (a := (s, c, t)) h S
theorem law_shows_r {s : List Fan} {c : P2} {t : D} (h : okSh (s, c, t)) (S : Store) : p_law_shows [spreadD s, pairD c, t] S = some (.bl (showsD s c t), S) :=
  pureP_r (enc := fun x : List Fan × P2 × D => [spreadD x.1, pairD x.2.1, x.2.2]) (fun a b e => by
    obtain ⟨a1, a2, a3⟩ := a; obtain ⟨b1, b2, b3⟩ := b
    simp only [List.cons.injEq, pairD_inj, and_true] at e
    rw [spreadD_inj _ _ e.1, e.2.1, e.2.2]) (a := (s, c, t)) h S
theorem comes_sum : ∀ (st : List P2) (ts : List Int) (b : P2), (st.zip ts).foldl (fun c p => addP c (mulP p.2 p.1)) b = (b.1 + ((ts.zip st).map fun p => p.1 * p.2.1).sum, b.2 + ((ts.zip st).map fun p => p.1 * p.2.2).sum)
  | [], _, b => by simp
  | _ :: _, [], b => by simp
  | s :: st, t :: ts, b => by
    rw [List.zip_cons_cons, List.foldl_cons, comes_sum st ts]
    simp only [addP, mulP, List.zip_cons_cons, List.map_cons, List.sum_cons]
    ext <;> simp <;> omega
theorem zip_swap {α β : Type} : ∀ (l : List α) (m : List β), m.zip l = (l.zip m).map fun p => (p.2, p.1)
  | [], m => by simp
  | _ :: _, [] => by simp
  | a :: l, b :: m => by simp [zip_swap l m]
theorem r_law_shows : Refines g_law_shows p_law_shows := refines_pure (fun x h S => ⟨[], by
  obtain ⟨s, c, t⟩ := x
  obtain ⟨hs, ht⟩ := h
  dsimp only at hs ht
  show g_law_shows [spreadD s, pairD c, t] S = some (.bl (showsD s c t), S ++ [])
  have hlen : ∀ S2 : Store, fLen [spreadD s] S2 = some (.int s.length, S2) := fun S2 => by simp [spreadD]
  cases t with
  | tup ds =>
    simp only [D.pl, Bool.and_eq_true, decide_eq_true_eq] at ht
    obtain ⟨hl, hp⟩ := ht
    have hp := pls_all.mp hp
    by_cases h2 : ds.length = 2
    · obtain ⟨a, b, rfl⟩ : ∃ a b, ds = [a, b] := by
        match ds, h2 with
        | [a, b], _ => exact ⟨a, b, rfl⟩
      have pa := hp a (by simp)
      have pb := hp b (by simp)
      cases b with
      | tup ms =>
        simp only [D.pl, Bool.and_eq_true, decide_eq_true_eq] at pb
        obtain ⟨hml, hmp⟩ := pb
        have hmp := pls_all.mp hmp
        have hfor := forL_first (g := gYes) (tg := gN 3) (body := l1_law_shows) (fun d : D => d) (fun d => if whole d = true then none else some (.bl false)) S (fun ρ => ∃ x3, ρ = [some (spreadD s), some (pairD c), some (.tup [a, .tup ms]), x3, none, none, none, none, none, none]) rfl (a :: ms) (by
          rintro d hd ρ ⟨x3, rfl⟩
          have pd : D.pl 1000 d = true := by
            rcases List.mem_cons.mp hd with rfl | hd
            · exact pa
            · exact hmp d hd
          refine ⟨_, rfl, ?_⟩
          by_cases hw : whole d = true
          · rw [if_pos hw]
            obtain ⟨i, rfl⟩ : ∃ i, d = .int i := by cases d <;> simp_all [whole]
            have hi : ¬ i < 0 := by have : 0 ≤ i := by simpa [whole] using hw
                                    omega
            refine ⟨[some (spreadD s), some (pairD c), some (.tup [a, .tup ms]), some (.int i), none, none, none, none, none, none], .inl ?_, _, rfl⟩
            simp [l1_law_shows, isiT, hi]
          · rw [if_neg hw]
            dsimp only
            cases d with
            | int i =>
              have hi : i < 0 := by have : ¬ 0 ≤ i := by simpa [whole] using hw
                                    omega
              simp [l1_law_shows, isiT, hi]
            | ref _ => simp [D.pl] at pd
            | adr _ => simp [D.pl] at pd
            | scr _ => simp [D.pl] at pd
            | _ => simp [l1_law_shows, isiT])
          [some (spreadD s), some (pairD c), some (.tup [a, .tup ms]), none, none, none, none, none, none, none] ⟨none, rfl⟩
        have hadd : opAdd false (.tup [a]) (.tup ms) S = some (.tup (a :: ms), S) := opAdd_tup (by rw [List.length_singleton, sizeLine_eq]; omega)
        rw [List.map_id'] at hfor
        by_cases hall : ((a :: ms).all whole) = true
        · have hn : (a :: ms).findSome? (fun d => if whole d = true then none else some (D.bl false)) = none := by
            rw [List.findSome?_eq_none_iff]
            intro d hd
            rw [if_pos (List.all_eq_true.mp hall d hd)]
          rw [hn] at hfor
          obtain ⟨ρ', hfor, x3, rfl⟩ := hfor
          simp only [List.all_cons, Bool.and_eq_true] at hall
          obtain ⟨hwa, hwm⟩ := hall
          obtain ⟨i, rfl⟩ : ∃ i, a = .int i := by cases a <;> simp_all [whole]
          have hi : 0 ≤ i := by simpa [whole] using hwa
          have hms := whole_ints (fun m hm => (List.all_eq_true.mp hwm) m hm)
          by_cases hlt : i < s.length
          · have hge : ¬ ((s.length : Int) ≤ i) := by omega
            obtain ⟨f, hf⟩ : ∃ f, s[i.toNat]? = some f := ⟨s[i.toNat]'(by omega), List.getElem?_eq_getElem (by omega)⟩
            have hfm : f ∈ s := List.mem_of_getElem? hf
            have hsub : ∀ S2 : Store, opSub2 (spreadD s) (.int i) S2 = some (.tup [pairD f.1, .tup (f.2.map pairD)], S2) := fun S2 => sub_tup (f := fanD) hi hf
            by_cases hlm : ms.length = f.2.length
            · have hz : List.zipWith zipPair ms (f.2.map pairD) = ((ms.map intD).zip f.2).map fun p => D.tup [.int p.1, pairD p.2] := by
                conv => lhs; rw [hms]
                exact zipW_map D.int pairD _ _
              have hc0 : ∀ x6 x9 : Option D, compL gYes [7, 8] (gTupD 2 (gConsD (gN 7) (gConsD (gN 8) gNilD))) tTrue (eBin (opMulS false) (eV 7) (eBin opSub2 (eV 8) (eC (.int 0)))) (((ms.map intD).zip f.2).map fun p => D.tup [.int p.1, pairD p.2]) [some (spreadD s), some (pairD c), some (.tup [.int i, .tup ms]), x3, some (pairD f.1), some (.tup (f.2.map pairD)), x6, none, none, x9] S [] = some ((((ms.map intD).zip f.2).map fun p => p.1 * p.2.1).map D.int, S) := fun x6 x9 => by
                rw [compL_map rfl (fun d => match d with | .tup [.int m, .tup [.int a, .int b]] => .int (m * a) | _ => .non)]
                · rw [List.map_map, List.map_map]; rfl
                · intro d hd
                  obtain ⟨p, hp, rfl⟩ := List.mem_map.mp hd
                  have m1 : ∀ S2 : Store, opMul (.int p.1) (.int p.2.1) S2 = some (.int (p.1 * p.2.1), S2) := fun S2 => opMul_int (.inr (hs f hfm _ (List.of_mem_zip hp).2).1)
                  refine ⟨_, rfl, ?_⟩
                  simp [wipeD, q0, m1]
                  rfl
                · rw [List.length_map, List.length_zip, List.length_map, sizeLine_eq]; omega
              have hc1 : ∀ x6 x9 : Option D, compL gYes [7, 8] (gTupD 2 (gConsD (gN 7) (gConsD (gN 8) gNilD))) tTrue (eBin (opMulS false) (eV 7) (eBin opSub2 (eV 8) (eC (.int 1)))) (((ms.map intD).zip f.2).map fun p => D.tup [.int p.1, pairD p.2]) [some (spreadD s), some (pairD c), some (.tup [.int i, .tup ms]), x3, some (pairD f.1), some (.tup (f.2.map pairD)), x6, none, none, x9] S [] = some ((((ms.map intD).zip f.2).map fun p => p.1 * p.2.2).map D.int, S) := fun x6 x9 => by
                rw [compL_map rfl (fun d => match d with | .tup [.int m, .tup [.int a, .int b]] => .int (m * b) | _ => .non)]
                · rw [List.map_map, List.map_map]; rfl
                · intro d hd
                  obtain ⟨p, hp, rfl⟩ := List.mem_map.mp hd
                  have m1 : ∀ S2 : Store, opMul (.int p.1) (.int p.2.2) S2 = some (.int (p.1 * p.2.2), S2) := fun S2 => opMul_int (.inr (hs f hfm _ (List.of_mem_zip hp).2).2)
                  refine ⟨_, rfl, ?_⟩
                  simp [wipeD, q1, m1]
                  rfl
                · rw [List.length_map, List.length_zip, List.length_map, sizeLine_eq]; omega
              have hsum : ∀ (l : List Int) (S2 : Store), l.length ≤ 1000 → newL false (l.map D.int) S2 = some (.lst (l.map D.int), S2) ∧ fSum [.lst (l.map D.int)] S2 = some (.int l.sum, S2) := fun l S2 hl => by
                refine ⟨newL_f (by rw [List.length_map, sizeLine_eq]; omega), ?_⟩
                simp only [fSum, readOf, listOf, intsOf_map, Option.bind_some, Option.map_some]
              have hs1 := hsum (((ms.map intD).zip f.2).map fun p => p.1 * p.2.1) S (by rw [List.length_map, List.length_zip, List.length_map]; omega)
              have hs2 := hsum (((ms.map intD).zip f.2).map fun p => p.1 * p.2.2) S (by rw [List.length_map, List.length_zip, List.length_map]; omega)
              have hcm : comes f (ms.map intD) = (f.1.1 + (((ms.map intD).zip f.2).map fun p => p.1 * p.2.1).sum, f.1.2 + (((ms.map intD).zip f.2).map fun p => p.1 * p.2.2).sum) := comes_sum f.2 (ms.map intD) f.1
              generalize ((((ms.map intD).zip f.2).map fun p => p.1 * p.2.1).map D.int) = L1 at hc0 hs1
              generalize ((((ms.map intD).zip f.2).map fun p => p.1 * p.2.2).map D.int) = L2 at hc1 hs2
              generalize (((ms.map intD).zip f.2).map fun p => p.1 * p.2.1).sum = s1 at hs1 hcm
              generalize (((ms.map intD).zip f.2).map fun p => p.1 * p.2.2).sum = s2 at hs2 hcm
              have heq : ∀ (x y : Int) (S2 : Store), opEq false (.tup [.int x, .int y]) (pairD c) S2 = some (.bl (decide ((x, y) = c)), S2) := fun x y S2 => by
                have := opEq_pair (neg := false) (p := (x, y)) (q := c) (S := S2)
                rwa [Bool.false_bne] at this
              have hsd : showsD s c (.tup [.int i, .tup ms]) = decide ((f.1.1 + s1, f.1.2 + s2) = c) := by
                simp [showsD, hf, hi, hlm, hwm, hcm]
              rw [hsd]
              generalize (((ms.map intD).zip f.2).map fun p => D.tup [.int p.1, pairD p.2]) = Z at hz hc0 hc1
              simp only [g_law_shows, runDef, b_law_shows]
              simp [isiT, at0, at1, hadd, hfor, hlen, hge, hsub, hlm, hz, hc0, hc1, hs1, hs2, heq, q0, q1, gTupD, gConsD, gNilD, gN]
            · have hlm' : ¬ ((ms.length : Int) = (f.2.length : Int)) := by omega
              have hsd : showsD s c (.tup [.int i, .tup ms]) = false := by simp [showsD, hf, hlm]
              rw [hsd]
              simp only [g_law_shows, runDef, b_law_shows]
              simp [isiT, at0, at1, hadd, hfor, hlen, hge, hsub, hlm, hlm']
          · have hge : (s.length : Int) ≤ i := by omega
            have hno : s[i.toNat]? = none := List.getElem?_eq_none (by omega)
            have hsd : showsD s c (.tup [.int i, .tup ms]) = false := by simp [showsD, hno]
            rw [hsd]
            simp only [g_law_shows, runDef, b_law_shows]
            simp [isiT, at0, at1, hadd, hfor, hlen, hge]
        · have hn : (a :: ms).findSome? (fun d => if whole d = true then none else some (D.bl false)) = some (.bl false) := by
            cases hx : (a :: ms).findSome? (fun d => if whole d = true then none else some (D.bl false)) with
            | none =>
              rw [List.findSome?_eq_none_iff] at hx
              refine absurd (List.all_eq_true.mpr fun d hd => ?_) hall
              have := hx d hd
              split at this
              · assumption
              · cases this
            | some r =>
              obtain ⟨d, _, e⟩ := List.exists_of_findSome?_eq_some hx
              split at e
              · cases e
              · exact e.symm
          rw [hn] at hfor
          have hsd : showsD s c (.tup [a, .tup ms]) = false := by
            cases a with
            | int i =>
              simp only [List.all_cons, Bool.and_eq_true, not_and] at hall
              by_cases hi : 0 ≤ i
              · have hm : ms.all whole = false := by simpa using hall (by simp [whole, hi])
                simp only [showsD, hm]
                cases s[i.toNat]? <;> simp
              · simp [showsD, hi]
            | _ => rfl
          rw [hsd]
          simp only [g_law_shows, runDef, b_law_shows]
          simp [isiT, at0, at1, hadd, hfor]
      | ref _ => simp [D.pl] at pb
      | adr _ => simp [D.pl] at pb
      | scr _ => simp [D.pl] at pb
      | _ =>
        have hsd : ∀ z : D, (∀ l, z ≠ .tup l) → showsD s c (.tup [a, z]) = false := fun z hz => by
          cases a <;> cases z <;> first | rfl | exact absurd rfl (hz _)
        rw [hsd _ (fun l e => by cases e)]
        simp only [g_law_shows, runDef, b_law_shows]
        simp [isiT, at1]
    · have h3 : ¬ ((ds.length : Int) = 2) := by omega
      have hsd : showsD s c (.tup ds) = false := by
        match ds, h2 with
        | [], _ => rfl
        | [_], _ => simp [showsD]
        | [a, b], h => exact absurd rfl h
        | _ :: _ :: _ :: _, _ => simp [showsD]
      rw [hsd]
      simp only [g_law_shows, runDef, b_law_shows]
      simp [h3, isiT]
  | ref _ => simp [D.pl] at ht
  | adr _ => simp [D.pl] at ht
  | scr _ => simp [D.pl] at ht
  | _ =>
    simp only [g_law_shows, runDef, b_law_shows]
    simp [showsD, isiT]⟩) fun x h n => rfl
end Ev
end L2

namespace L2
namespace Ev
open PyProof.Rows PySem.Spec PySem L2
variable [Tb]
/-! ### things spoilt -/
noncomputable def b_law_odd : MS := (sSeq (sAsg (eLst false (aCons (eUn opNeg (eC (.int 1))) (aCons (eC (.int 0)) (aCons (eC (.int 1)) (aCons (eC (.int 2)) (aCons (eC (.int 5)) (aCons (eC (.int 10)) (aCons (eC (.bl true)) (aCons (eC (.bl false)) (aCons (eC .non) (aCons (eC (.str "")) (aCons (eC (.str "a")) (aCons (eC (.str "c")) (aCons (eTup aNil) (aCons (eLst false aNil) (aCons (eTup (aCons (eC (.int 0)) aNil)) (aCons (eTup (aCons (eC (.int 0)) (aCons (eC (.int 0)) aNil))) (aCons (eTup (aCons (eC (.int 1)) (aCons (eC (.int 2)) aNil))) (aCons (eTup (aCons (eC (.bl true)) (aCons (eC (.int 0)) aNil))) (aCons (eLst false (aCons (eC (.int 1)) (aCons (eC (.int 2)) aNil))) aNil)))))))))))))))))))) (gN 1)) (sSeq (sAsg (eBin (opAdd false) (eV 1) (eLst false (aCons (eTup (aCons (eC (.str "a")) (aCons (eC (.int 2)) aNil))) aNil))) (gN 1)) (sRet (eBin opSub2 (eBin (opAdd false) (eV 1) (eLst false (aCons (eTup (aCons (eTup (aCons (eC (.int 0)) (aCons (eC (.int 0)) aNil))) aNil)) (aCons (eTup (aCons (eTup (aCons (eC (.int 1)) (aCons (eC (.int 1)) aNil))) (aCons (eTup (aCons (eTup (aCons (eC (.int 0)) (aCons (eC (.int 0)) aNil))) aNil)) aNil))) (aCons (eTup (aCons (eC (.int 1)) (aCons (eC (.int 2)) (aCons (eC (.int 3)) aNil)))) (aCons (eTup (aCons (eC (.str "b")) aNil)) (aCons (eTup (aCons (eC (.int 0)) (aCons (eC (.int 0)) (aCons (eC (.int 0)) aNil)))) (aCons (eC (.str "ab")) (aCons (eTup (aCons (eTup (aCons (eC (.str "a")) aNil)) aNil)) (aCons (eTup (aCons (eC (.int 5)) (aCons (eC (.int 0)) aNil))) aNil)))))))))) (eBin opMod (eV 0) (eC (.int 28)))))))
noncomputable def g_law_odd : List D → M D := runDef 2 b_law_odd
noncomputable def b_law_spoilt (rec : List D → M D) : MS := (sSeq (sIf (tAndD (tOf (eBin opGt (eV 2) (eC (.int 0)))) (tAndD (tOf (eIsi "tuple" (eV 0))) (tAndD (tOf (eBin opGt (eFn fLen (aCons (eV 0) aNil)) (eC (.int 0)))) (tOf (eBin opGt (eBin opMod (eV 1) (eC (.int 6))) (eC (.int 0))))))) (sSeq (sAsg (eBin opMod (eBin opFdiv (eV 1) (eC (.int 6))) (eFn fLen (aCons (eV 0) aNil))) (gN 3)) (sSeq (sAsg (eCall 3 rec (aCons (eBin opSub2 (eV 0) (eV 3)) (aCons (eBin opFdiv (eV 1) (eC (.int 126))) (aCons (eBin opSub (eV 2) (eC (.int 1))) aNil)))) (gN 4)) (sRet (eBin (opAdd false) (eBin (opAdd false) (eSl false (eV 0) oNo (oYes (eV 3))) (eTup (aCons (eV 4) aNil))) (eSl false (eV 0) (oYes (eBin (opAdd false) (eV 3) (eC (.int 1)))) oNo))))) sNx) (sSeq (sIf (tAndD (tOf (eIsi "tuple" (eV 0))) (tAndD (tOf (eBin opGt (eFn fLen (aCons (eV 0) aNil)) (eC (.int 0)))) (tOf (eBin (opEq false) (eBin opMod (eBin opFdiv (eV 1) (eC (.int 6))) (eC (.int 2))) (eC (.int 0)))))) (sRet (eBin opSub2 (eLst false (aCons (eFn (fList false) (aCons (eV 0) aNil)) (aCons (eSl false (eV 0) oNo (oYes (eUn opNeg (eC (.int 1))))) (aCons (eBin (opAdd false) (eV 0) (eSl false (eV 0) (oYes (eUn opNeg (eC (.int 1)))) oNo)) (aCons (eSl false (eV 0) (oYes (eC (.int 1))) oNo) (aCons (eRev false (eV 0)) (aCons (eBin (opMulS false) (eV 0) (eC (.int 2))) aNil))))))) (eBin opMod (eBin opFdiv (eV 1) (eC (.int 12))) (eC (.int 6))))) sNx) (sSeq (sIf (tAndD (tOf (eIsi "int" (eV 0))) (tOf (eBin (opEq false) (eBin opMod (eBin opFdiv (eV 1) (eC (.int 6))) (eC (.int 2))) (eC (.int 0))))) (sRet (eBin opSub2 (eLst false (aCons (eFn fStr (aCons (eV 0) aNil)) (aCons (eUn opNeg (eV 0)) (aCons (eBin (opAdd false) (eV 0) (eC (.int 1))) (aCons (eBin (opEq false) (eV 0) (eC (.int 1))) (aCons (eBin opSub (eV 0) (eC (.int 1))) (aCons (eBin (opAdd false) (eV 0) (eC (.int 9))) aNil))))))) (eBin opMod (eBin opFdiv (eV 1) (eC (.int 12))) (eC (.int 6))))) sNx) (sRet (eCall 1 g_law_odd (aCons (eBin opFdiv (eV 1) (eC (.int 6))) aNil))))))
noncomputable def g_law_spoilt : Nat → List D → M D
  | 0 => fun _ _ => none
  | n + 1 => runDef 5 (b_law_spoilt (g_law_spoilt n))
def oddTab : List D := [.int (-1), .int 0, .int 1, .int 2, .int 5, .int 10, .bl true, .bl false, .non, .str "", .str "a", .str "c", .tup [], .lst [], .tup [.int 0], .tup [.int 0, .int 0], .tup [.int 1, .int 2], .tup [.bl true, .int 0], .lst [.int 1, .int 2],
  .tup [.str "a", .int 2], .tup [.tup [.int 0, .int 0]], .tup [.tup [.int 1, .int 1], .tup [.tup [.int 0, .int 0]]], .tup [.int 1, .int 2, .int 3], .tup [.str "b"], .tup [.int 0, .int 0, .int 0], .str "ab", .tup [.tup [.str "a"]], .tup [.int 5, .int 0]]
theorem oddTab_pl : ∀ d ∈ oddTab, D.pl 100 d = true := by decide +kernel
theorem odd_ok (n : Int) (S : Store) : ∃ d, d ∈ oddTab ∧ g_law_odd [.int n] S = some (d, S) := by
  have h0 := Int.emod_nonneg n (b := 28) (by decide)
  have h1 := Int.emod_lt_of_pos n (b := 28) (by decide)
  obtain ⟨x, e1, e2⟩ := atI_mod (xs := oddTab) (i := n % 28) h0 (by simpa [oddTab] using h1)
  refine ⟨x, List.mem_of_getElem? e1, ?_⟩
  unfold oddTab at e2
  simp only [g_law_odd, runDef, b_law_odd]
  simp [opAdd_lst, e2]
theorem pls_drop {m : Nat} {ds : List D} (h : D.pls m ds = true) (k : Nat) : D.pls m (ds.drop k) = true := pls_all.mpr fun d hd => pls_all.mp h d (List.mem_of_mem_drop hd)
theorem pls_take {m : Nat} {ds : List D} (h : D.pls m ds = true) (k : Nat) : D.pls m (ds.take k) = true := pls_all.mpr fun d hd => pls_all.mp h d (List.mem_of_mem_take hd)
theorem pls_app {m : Nat} {ds es : List D} (h : D.pls m ds = true) (h2 : D.pls m es = true) : D.pls m (ds ++ es) = true := pls_all.mpr fun d hd => by
  rcases List.mem_append.mp hd with hd | hd
  · exact pls_all.mp h d hd
  · exact pls_all.mp h2 d hd
theorem cutD_sub (xs : List D) (a b : Option Int) : (∀ d ∈ cutD xs a b, d ∈ xs) ∧ (cutD xs a b).length ≤ xs.length := by
  unfold cutD
  refine ⟨fun d hd => List.mem_of_mem_drop (List.mem_of_mem_take hd), ?_⟩
  rw [List.length_take, List.length_drop]; omega
theorem pls_cut {m : Nat} {ds : List D} (h : D.pls m ds = true) (a b : Option Int) : D.pls m (cutD ds a b) = true := pls_all.mpr fun d hd => pls_all.mp h d ((cutD_sub ds a b).1 d hd)
theorem tx_len {i : Int} (h : i.natAbs ≤ 100) : (tx i).length ≤ 1000 := by
  have : ∀ k : Fin 201, (tx ((k.val : Int) - 100)).length ≤ 1000 := by decide +kernel
  have e : (((⟨(i + 100).toNat, by omega⟩ : Fin 201).val : Int) - 100) = i := by show (((i + 100).toNat : Nat) : Int) - 100 = i; omega
  rw [← e]; exact this _
theorem noBs_all : ∀ {ds : List D}, D.noBs ds = true ↔ ∀ d ∈ ds, D.noB d = true
  | [] => by simp [D.noBs]
  | d :: ds => by simp [D.noBs, noBs_all (ds := ds)]
theorem six {S : Store} {l : List D} (hl : l.length = 6) {n : Int} {m : Nat} (hp : ∀ d ∈ l, D.pl m d = true) : ∃ d, D.pl m d = true ∧ atI l (n % 6) = some d := by
  have h0 := Int.emod_nonneg n (b := 6) (by decide)
  have h1 := Int.emod_lt_of_pos n (b := 6) (by decide)
  obtain ⟨x, e1, e2⟩ := atI_mod (xs := l) (i := n % 6) h0 (by omega)
  exact ⟨x, hp x (List.mem_of_getElem? e1), e2⟩
theorem spoilt_step {rec : List D → M D} {t : D} {n deep : Int} {S : Store} (hn : D.noB t = true) (hp : D.pl 100 t = true)
    (hrec : ∀ (t' : D) (n' : Int), D.noB t' = true → D.pl 100 t' = true → 0 < deep → ∃ d, D.pl 1000 d = true ∧ rec [t', .int n', .int (deep - 1)] S = some (d, S)) :
    ∃ d, D.pl 1000 d = true ∧ runDef 5 (b_law_spoilt rec) [t, .int n, .int deep] S = some (d, S) := by
  obtain ⟨o, ho1, ho2⟩ := odd_ok (n / 6) S
  have ho := pl_mono (by decide : 100 ≤ 1000) o (oddTab_pl o ho1)
  cases t with
  | tup ds =>
    simp only [D.pl, Bool.and_eq_true, decide_eq_true_eq] at hp
    obtain ⟨hl, hp⟩ := hp
    simp only [D.noB] at hn
    have hpm : D.pls 1000 ds = true := pls_mono (by decide) ds hp
    by_cases h0 : ds = []
    · subst h0
      refine ⟨o, ho, ?_⟩
      by_cases hd : 0 < deep
      · simp only [runDef, b_law_spoilt]
        simp [isiT, hd, ho2]
      · simp only [runDef, b_law_spoilt]
        simp [isiT, hd, ho2]
    · have hpos : 0 < ds.length := List.length_pos_iff.mpr h0
      have hpos' : (0 : Int) < ds.length := by omega
      by_cases hc : 0 < deep ∧ 0 < n % 6
      · have a0 := Int.emod_nonneg (n / 6) (b := (ds.length : Int)) (by omega)
        have a1 := Int.emod_lt_of_pos (n / 6) hpos'
        obtain ⟨x, e1, e2⟩ := atI_mod (xs := ds) (i := n / 6 % (ds.length : Int)) a0 a1
        have hx := List.mem_of_getElem? e1
        obtain ⟨d, hd, e3⟩ := hrec x (n / 126) (noBs_all.mp hn x hx) (pls_all.mp hp x hx) hc.1
        have c1 := cutD_sub ds none (some (n / 6 % (ds.length : Int)))
        have c2 := cutD_sub ds (some (n / 6 % (ds.length : Int) + 1)) none
        have p1 := pls_cut hpm none (some (n / 6 % (ds.length : Int)))
        have p2 := pls_cut hpm (some (n / 6 % (ds.length : Int) + 1)) none
        have hsub : ∀ S2 : Store, opSub2 (.tup ds) (.int (n / 6 % (ds.length : Int))) S2 = some (x, S2) := fun S2 => by rw [opSub2_tup, e2]; rfl
        have hmod : ∀ S2 : Store, opMod (.int (n / 6)) (.int (ds.length : Nat)) S2 = some (.int (n / 6 % (ds.length : Int)), S2) := fun S2 => opMod_int hpos'
        generalize n / 6 % (ds.length : Int) = at_ at *
        have hadd1 : ∀ S2 : Store, opAdd false (.tup (cutD ds none (some at_))) (.tup [d]) S2 = some (.tup (cutD ds none (some at_) ++ [d]), S2) := fun S2 => opAdd_tup (by rw [List.length_singleton, sizeLine_eq]; omega)
        have hadd2 : ∀ S2 : Store, opAdd false (.tup (cutD ds none (some at_) ++ [d])) (.tup (cutD ds (some (at_ + 1)) none)) S2 = some (.tup (cutD ds none (some at_) ++ [d] ++ cutD ds (some (at_ + 1)) none), S2) := fun S2 => opAdd_tup (by rw [List.length_append, List.length_singleton, sizeLine_eq]; omega)
        refine ⟨.tup (cutD ds none (some at_) ++ [d] ++ cutD ds (some (at_ + 1)) none), ?_, ?_⟩
        · simp only [D.pl, Bool.and_eq_true, decide_eq_true_eq, List.length_append, List.length_singleton]
          exact ⟨by omega, pls_app (pls_app p1 (by simp [D.pls, hd])) p2⟩
        · simp only [runDef, b_law_spoilt]
          simp [isiT, hc.1, hc.2, hpos, hmod, hsub, e3, opSl, hadd1, hadd2, -List.append_assoc]
      · have hcc : tAndD (tOf (eBin opGt (eV 2) (eC (.int 0)))) (tAndD (tOf (eIsi "tuple" (eV 0))) (tAndD (tOf (eBin opGt (eFn fLen (aCons (eV 0) aNil)) (eC (.int 0)))) (tOf (eBin opGt (eBin opMod (eV 1) (eC (.int 6))) (eC (.int 0)))))) [some (.tup ds), some (.int n), some (.int deep), none, none] S = some (false, S) := by
          by_cases hd : 0 < deep
          · have h6 : ¬ 0 < n % 6 := fun z => hc ⟨hd, z⟩
            simp [hd, isiT, hpos, h6]
          · simp [hd]
        by_cases h2 : n / 6 % 2 = 0
        · have c1 := cutD_sub ds none (some (-1))
          have c2 := cutD_sub ds (some (-1)) none
          have c3 := cutD_sub ds (some 1) none
          have hnl : newL false ds S = some (.lst ds, S) := newL_f (by rw [sizeLine_eq]; omega)
          have hadd : ∀ S2 : Store, opAdd false (.tup ds) (.tup (cutD ds (some (-1)) none)) S2 = some (.tup (ds ++ cutD ds (some (-1)) none), S2) := fun S2 => opAdd_tup (by rw [sizeLine_eq]; omega)
          have hmul : ∀ S2 : Store, opMulS false (.tup ds) (.int 2) S2 = some (.tup (repD 2 ds), S2) := fun S2 => opMulS_tup (by decide) (by decide) (by omega)
          have hrep : repD 2 ds = ds ++ ds := by simp [repD, List.replicate_succ]
          obtain ⟨d, hd, e6⟩ := six (S := S) (l := [.lst ds, .tup (cutD ds none (some (-1))), .tup (ds ++ cutD ds (some (-1)) none), .tup (cutD ds (some 1) none), .tup ds.reverse, .tup (repD 2 ds)]) (m := 1000) rfl (n := n / 12) (by
            intro d hd
            simp only [List.mem_cons, List.not_mem_nil, or_false] at hd
            have hr : D.pls 1000 ds.reverse = true := pls_all.mpr fun x hx => pls_all.mp hpm x (List.mem_reverse.mp hx)
            rcases hd with rfl | rfl | rfl | rfl | rfl | rfl <;> simp only [D.pl, Bool.and_eq_true, decide_eq_true_eq]
            · exact ⟨by omega, hpm⟩
            · exact ⟨by omega, pls_cut hpm _ _⟩
            · exact ⟨by rw [List.length_append]; omega, pls_app hpm (pls_cut hpm _ _)⟩
            · exact ⟨by omega, pls_cut hpm _ _⟩
            · exact ⟨by rw [List.length_reverse]; omega, hr⟩
            · rw [hrep]; exact ⟨by rw [List.length_append]; omega, pls_app hpm hpm⟩)
          refine ⟨d, hd, ?_⟩
          have e0 : fList false [.tup ds] S = some (.lst ds, S) := hnl
          simp only [runDef, b_law_spoilt]
          simp [hcc, isiT, hpos, h2, e0, opSl, hadd, hmul, e6, -tAndD_r]
          simp [isiT, hpos, h2, e0, opSl, hadd, hmul, e6]
        · refine ⟨o, ho, ?_⟩
          simp only [runDef, b_law_spoilt]
          simp [hcc, -tAndD_r]
          simp [isiT, hpos, h2, ho2]
  | int i =>
    simp only [D.pl, decide_eq_true_eq] at hp
    have hcc : tAndD (tOf (eBin opGt (eV 2) (eC (.int 0)))) (tAndD (tOf (eIsi "tuple" (eV 0))) (tAndD (tOf (eBin opGt (eFn fLen (aCons (eV 0) aNil)) (eC (.int 0)))) (tOf (eBin opGt (eBin opMod (eV 1) (eC (.int 6))) (eC (.int 0)))))) [some (.int i), some (.int n), some (.int deep), none, none] S = some (false, S) := by
      by_cases hd : 0 < deep <;> simp [hd, isiT]
    by_cases h2 : n / 6 % 2 = 0
    · have hs : ∀ S2 : Store, fStr [.int i] S2 = some (.str (tx i), S2) := fStr_int ⟨Nat.lt_of_le_of_lt hp (Nat.lt_of_lt_of_le (by decide : 100 < 2 ^ 7) (Nat.pow_le_pow_right (by decide) (by decide))), tx_len hp⟩
      have hl := tx_len hp
      obtain ⟨d, hd, e6⟩ := six (S := S) (l := [.str (tx i), .int (-i), .int (i + 1), .bl (decide (i = 1)), .int (i - 1), .int (i + 9)]) (m := 1000) rfl (n := n / 12) (by
        intro d hd
        simp only [List.mem_cons, List.not_mem_nil, or_false] at hd
        rcases hd with rfl | rfl | rfl | rfl | rfl | rfl <;> simp only [D.pl, decide_eq_true_eq] <;> omega)
      refine ⟨d, hd, ?_⟩
      simp only [runDef, b_law_spoilt]
      simp [hcc, -tAndD_r]
      simp [isiT, h2, hs, e6]
    · refine ⟨o, ho, ?_⟩
      simp only [runDef, b_law_spoilt]
      simp [hcc, -tAndD_r]
      simp [isiT, h2, ho2]
  | bl _ => simp [D.noB] at hn
  | ref _ => simp [D.noB] at hn
  | adr _ => simp [D.noB] at hn
  | scr _ => simp [D.noB] at hn
  | _ =>
    refine ⟨o, ho, ?_⟩
    by_cases hd : 0 < deep
    · simp only [runDef, b_law_spoilt]
      simp [hd, isiT, ho2]
    · simp only [runDef, b_law_spoilt]
      simp [hd, isiT, ho2]
theorem spoilt_ok : ∀ (k : Nat) (t : D) (n deep : Int) (S : Store), deep ≤ k → D.noB t = true → D.pl 100 t = true → ∃ d, D.pl 1000 d = true ∧ g_law_spoilt (k + 1) [t, .int n, .int deep] S = some (d, S)
  | 0, t, n, deep, S, hd, hn, hp => spoilt_step hn hp fun t' n' _ _ h => by omega
  | k + 1, t, n, deep, S, hd, hn, hp => spoilt_step hn hp fun t' n' h1 h2 h => spoilt_ok k t' n' (deep - 1) S (by omega) h1 h2
end Ev
end L2

namespace L2
namespace Ev
open PyProof.Rows PySem.Spec PySem L2
variable [Tb]
/-! ### which counts few tells -/
/-- to come to a count by steps -/
inductive Rch (st : List P2) (b : P2) : P2 → Prop
  | base : Rch st b b
  | step {c s : P2} (h : Rch st b c) (hs : s ∈ st) : Rch st b (addP c s)
theorem addP_assoc (a b c : P2) : addP (addP a b) c = addP a (addP b c) := by simp only [addP]; ext <;> simp <;> omega
theorem addP_comm (a b : P2) : addP a b = addP b a := by simp only [addP]; ext <;> simp <;> omega
theorem addP_zero (a : P2) : addP a (0, 0) = a := by simp [addP]
theorem rch_mul {st : List P2} {b c s : P2} (h : Rch st b c) (hs : s ∈ st) : ∀ n : Nat, Rch st b (addP c (mulP n s))
  | 0 => by have : addP c (mulP (0 : Nat) s) = c := by simp [addP, mulP]
            rw [this]; exact h
  | n + 1 => by
    have : addP c (mulP (n + 1 : Nat) s) = addP (addP c (mulP n s)) s := by simp only [addP, mulP, Int.natCast_add, Int.add_mul]; ext <;> simp <;> omega
    rw [this]; exact .step (rch_mul h hs n) hs
theorem rch_tot {st : List P2} {b : P2} : ∀ (r : List P2) (ts : List Int) (c : P2), (∀ s ∈ r, s ∈ st) → (∀ t ∈ ts, 0 ≤ t) → Rch st b c → Rch st b (addP c (totP r ts))
  | [], _, c, _, _, h => by rw [totP, addP_zero]; exact h
  | _ :: _, [], c, _, _, h => by rw [totP, addP_zero]; exact h
  | s :: r, t :: ts, c, hr, ht, h => by
    rw [totP, ← addP_assoc]
    have h0 := ht t List.mem_cons_self
    obtain ⟨n, rfl⟩ : ∃ n : Nat, t = n := ⟨t.toNat, by omega⟩
    exact rch_tot r ts _ (fun x hx => hr x (List.mem_cons_of_mem _ hx)) (fun x hx => ht x (List.mem_cons_of_mem _ hx)) (rch_mul h (hr s List.mem_cons_self) n)
theorem tot_zeros : ∀ r : List P2, totP r (r.map fun _ => (0 : Int)) = (0, 0)
  | [] => rfl
  | s :: r => by rw [List.map_cons, totP, tot_zeros r]; simp [addP, mulP]
/-- one step more -/
theorem tot_more {s : P2} : ∀ (r : List P2) (ts : List Int), s ∈ r → ts.length = r.length → (∀ t ∈ ts, 0 ≤ t) → ∃ us : List Int, us.length = r.length ∧ (∀ t ∈ us, 0 ≤ t) ∧ totP r us = addP (totP r ts) s
  | [], _, h, _, _ => by cases h
  | x :: r, [], _, h, _ => by simp at h
  | x :: r, t :: ts, h, hl, hp => by
    have h0 := hp t List.mem_cons_self
    have hp' : ∀ t ∈ ts, 0 ≤ t := fun y hy => hp y (List.mem_cons_of_mem _ hy)
    rcases List.mem_cons.mp h with rfl | h
    · refine ⟨(t + 1) :: ts, by simpa using hl, fun y hy => ?_, ?_⟩
      · rcases List.mem_cons.mp hy with rfl | hy
        · omega
        · exact hp' y hy
      · simp only [totP, addP, mulP, Int.add_mul]; ext <;> simp <;> omega
    · obtain ⟨us, h1, h2, h3⟩ := tot_more r ts h (by simpa using hl) hp'
      refine ⟨t :: us, by simp [h1], fun y hy => ?_, ?_⟩
      · rcases List.mem_cons.mp hy with rfl | hy
        · exact h0
        · exact h2 y hy
      · rw [totP, totP, h3, ← addP_assoc]
theorem fanHas_iff {f : Fan} {c : P2} : fanHas f c ↔ Rch f.2 f.1 c := by
  constructor
  · rintro ⟨ts, _, h2, rfl⟩
    exact rch_tot f.2 ts f.1 (fun _ h => h) h2 .base
  · intro h
    induction h with
    | base => exact ⟨f.2.map fun _ => 0, by simp, fun t ht => by obtain ⟨_, _, rfl⟩ := List.mem_map.mp ht; exact Int.le_refl 0, by rw [tot_zeros, addP_zero]⟩
    | step h hs ih =>
      obtain ⟨ts, h1, h2, h3⟩ := ih
      obtain ⟨us, g1, g2, g3⟩ := tot_more f.2 ts hs h1 h2
      exact ⟨us, g1, g2, by rw [g3, ← addP_assoc, h3]⟩
theorem Had.sound {st : List P2} {m : Int} {b : P2} {f t r : List P2} (H : Had st m f t r) : (∀ p ∈ f, Rch st b p ∧ maxP p ≤ m) → (∀ p ∈ t, Rch st b p) → ∀ p ∈ r, Rch st b p ∧ maxP p ≤ m := by
  induction H with
  | done f => exact fun h _ => h
  | skip c k ih => exact fun h1 h2 => ih h1 fun p hp => h2 p (List.mem_append_left _ hp)
  | @take f t h r c1 c2 k ih =>
    intro h1 h2
    have hh := h2 h (List.mem_append_right _ (by simp))
    refine ih (fun p hp => ?_) fun p hp => ?_
    · rcases mem_insP.mp hp with hp | rfl
      · exact h1 p hp
      · exact ⟨hh, c1⟩
    · rcases List.mem_append.mp hp with hp | hp
      · exact h2 p (List.mem_append_left _ hp)
      · obtain ⟨q, hq, rfl⟩ := List.mem_map.mp hp
        exact .step hh hq
theorem Had.sub {st : List P2} {m : Int} {f t r : List P2} (H : Had st m f t r) : (∀ p ∈ f, p ∈ r) ∧ ∀ p ∈ t, maxP p ≤ m → p ∈ r := by
  induction H with
  | done f => exact ⟨fun _ h => h, fun p hp => by cases hp⟩
  | @skip f t h r c k ih =>
    refine ⟨ih.1, fun p hp hm => ?_⟩
    rcases List.mem_append.mp hp with hp | hp
    · exact ih.2 p hp hm
    · rw [List.mem_singleton.mp hp] at hm ⊢
      exact ih.1 h (Classical.byContradiction fun z => c ⟨hm, z⟩)
  | @take f t h r c1 c2 k ih =>
    refine ⟨fun p hp => ih.1 p (mem_insP.mpr (.inl hp)), fun p hp hm => ?_⟩
    rcases List.mem_append.mp hp with hp | hp
    · exact ih.2 p (List.mem_append_left _ hp) hm
    · rw [List.mem_singleton.mp hp]
      exact ih.1 h (mem_insP.mpr (.inr rfl))
theorem Had.closed {st : List P2} {m : Int} {f t r : List P2} (H : Had st m f t r) : (∀ p ∈ f, ∀ s ∈ st, maxP (addP p s) ≤ m → addP p s ∈ r) → ∀ p ∈ r, ∀ s ∈ st, maxP (addP p s) ≤ m → addP p s ∈ r := by
  induction H with
  | done f => exact id
  | skip c k ih => exact ih
  | @take f t h r c1 c2 k ih =>
    intro h1
    refine ih fun p hp s hs hm => ?_
    rcases mem_insP.mp hp with hp | rfl
    · exact h1 p hp s hs hm
    · exact k.sub.2 _ (List.mem_append_right _ (List.mem_map.mpr ⟨s, hs, rfl⟩)) hm
theorem maxP_add {c s : P2} (h : 0 ≤ s.1 ∧ 0 ≤ s.2) : maxP c ≤ maxP (addP c s) := by
  unfold maxP addP
  dsimp only
  split <;> split <;> omega
theorem Had.all {st : List P2} {m : Int} {b : P2} {r : List P2} (H : Had st m [] [b] r) (hs : nonP st) {p : P2} (h : Rch st b p) : maxP p ≤ m → p ∈ r := by
  induction h with
  | base => exact fun hm => H.sub.2 b (by simp) hm
  | step h hs' ih =>
    intro hm
    exact H.closed (by simp) _ (ih (Int.le_trans (maxP_add (hs _ hs')) hm)) _ hs' hm
theorem mem_hadR {x : Fan × Int} (h : okFew x) {p : P2} : p ∈ hadR x ↔ maxP p ≤ x.2 ∧ fanHas x.1 p := by
  have H := hadR_had h
  rw [fanHas_iff]
  constructor
  · intro hp
    have := H.sound (b := x.1.1) (by simp) (fun q hq => by rw [List.mem_singleton.mp hq]; exact .base) p hp
    exact ⟨this.2, this.1⟩
  · rintro ⟨h1, h2⟩
    exact H.all h.2.1 h2 h1
theorem mem_foldl_ins {p : P2} : ∀ (r ks : List P2), p ∈ r.foldl insP ks ↔ p ∈ ks ∨ p ∈ r
  | [], ks => by simp
  | a :: r, ks => by
    rw [List.foldl_cons, mem_foldl_ins r, mem_insP, List.mem_cons, or_assoc]
theorem mem_fewL {s : List Fan} {m : Int} (h : ∀ f ∈ s, okFew (f, m)) {p : P2} : p ∈ fewL (s, m) ↔ maxP p ≤ m ∧ ∃ f ∈ s, fanHas f p := by
  have gen : ∀ (l : List Fan) (ks : List P2), (∀ f ∈ l, okFew (f, m)) → (p ∈ l.foldl (fun ks f => (hadR (f, m)).foldl insP ks) ks ↔ p ∈ ks ∨ (maxP p ≤ m ∧ ∃ f ∈ l, fanHas f p)) := by
    intro l
    induction l with
    | nil => intro ks _; simp
    | cons f l ih =>
      intro ks hl
      rw [List.foldl_cons, ih _ fun g hg => hl g (List.mem_cons_of_mem _ hg), mem_foldl_ins, mem_hadR (hl f List.mem_cons_self)]
      dsimp only
      constructor
      · rintro ((h1 | ⟨h1, h2⟩) | ⟨h1, g, hg, h2⟩)
        · exact .inl h1
        · exact .inr ⟨h1, f, List.mem_cons_self, h2⟩
        · exact .inr ⟨h1, g, List.mem_cons_of_mem _ hg, h2⟩
      · rintro (h1 | ⟨h1, g, hg, h2⟩)
        · exact .inl (.inl h1)
        · rcases List.mem_cons.mp hg with rfl | hg
          · exact .inl (.inr ⟨h1, h2⟩)
          · exact .inr ⟨h1, g, hg, h2⟩
  have := gen s [] h
  simp only [List.not_mem_nil, false_or] at this
  exact this
theorem mem_fewR {s : List Fan} {m : Int} (h : ∀ f ∈ s, okFew (f, m)) {p : P2} : p ∈ fewR (s, m) ↔ maxP p ≤ m ∧ ∃ f ∈ s, fanHas f p := by
  unfold fewR sortP
  rw [List.mem_mergeSort]; exact mem_fewL h
/-! ### the paper that how finds -/
theorem comes_tot : ∀ (st : List P2) (ts : List Int) (b : P2), (st.zip ts).foldl (fun c p => addP c (mulP p.2 p.1)) b = addP b (totP st ts)
  | [], _, b => by simp [totP, addP_zero]
  | _ :: _, [], b => by simp [totP, addP_zero]
  | s :: st, t :: ts, b => by rw [List.zip_cons_cons, List.foldl_cons, comes_tot st ts, totP, ← addP_assoc]
theorem howL_some : ∀ (s : List Fan) (i : Nat) (c : P2) (j : Int) (ts : List Int), howL i s c = some (j, ts) → ∃ k f, j = ((i + k : Nat) : Int) ∧ s[k]? = some f ∧ howF f c = some ts
  | [], _, _, _, _, h => by cases h
  | f :: s, i, c, j, ts, h => by
    rw [howL] at h
    split at h
    · rename_i us e
      cases h
      exact ⟨0, f, rfl, rfl, e⟩
    · obtain ⟨k, g, e1, e2, e3⟩ := howL_some s (i + 1) c j ts h
      exact ⟨k + 1, g, by rw [e1]; omega, e2, e3⟩
theorem howL_none : ∀ (s : List Fan) (i : Nat) (c : P2), howL i s c = none ↔ ∀ f ∈ s, howF f c = none
  | [], _, _ => by simp [howL]
  | f :: s, i, c => by
    rw [howL]
    cases hf : howF f c with
    | none => simp [hf, howL_none s (i + 1) c]
    | some _ => simp [hf]
theorem how_iff {s : List Fan} (h : ∀ f ∈ s, goodSt f.2) {c : P2} : (howL 0 s c).isSome = true ↔ ∃ f ∈ s, fanHas f c := by
  constructor
  · intro hs
    obtain ⟨⟨j, ts⟩, e⟩ := Option.isSome_iff_exists.mp hs
    obtain ⟨k, f, _, e2, e3⟩ := howL_some s 0 c j ts e
    exact ⟨f, List.mem_of_getElem? e2, ts, howF_some e3⟩
  · rintro ⟨f, hf, hc⟩
    cases e : howL 0 s c with
    | some _ => rfl
    | none => exact absurd hc (howF_none (h f hf) ((howL_none s 0 c).mp e f hf))
theorem shows_paper {s : List Fan} {c : P2} {q : Int × List Int} (h : howL 0 s c = some q) : showsD s c (paperD (some q)) = true := by
  obtain ⟨j, ts⟩ := q
  obtain ⟨k, f, rfl, e2, e3⟩ := howL_some s 0 c j ts h
  obtain ⟨h1, h2, h3⟩ := howF_some e3
  have e4 : comes f (List.map (intD ∘ D.int) ts) = c := by
    have : (intD ∘ D.int) = id := rfl
    rw [this, List.map_id]
    exact (comes_tot f.2 ts f.1).trans h3
  simp [paperD, showsD, e2, h1, List.all_map, e4]
  exact fun t ht => by simpa [whole] using h2 t ht
theorem tot_le {m : Int} : ∀ (r : List P2) (ts : List Int), goodSt r → (∀ t ∈ ts, 0 ≤ t) → (totP r ts).1 + (totP r ts).2 ≤ m → ts.length = r.length → ∀ t ∈ ts, t ≤ m
  | [], [], _, _, _, _, t, h => by cases h
  | [], _ :: _, _, _, _, hl, _, _ => by simp at hl
  | _ :: _, [], _, _, _, _, t, h => by cases h
  | s :: r, u :: ts, hg, hp, hm, hl, t, ht => by
    have hs := hg s List.mem_cons_self
    have hu := hp u List.mem_cons_self
    have hg' : goodSt r := fun p hp => hg p (List.mem_cons_of_mem _ hp)
    have hp' : ∀ t ∈ ts, 0 ≤ t := fun y hy => hp y (List.mem_cons_of_mem _ hy)
    have hn := tot_nonneg r ts hg' hp'
    have a1 : 0 ≤ u * s.1 := Int.mul_nonneg hu hs.1
    have a2 : 0 ≤ u * s.2 := Int.mul_nonneg hu hs.2.1
    simp only [totP, addP, mulP] at hm
    have hne : 1 ≤ s.1 + s.2 := by
      have : ¬ (s.1 = 0 ∧ s.2 = 0) := fun w => hs.2.2 (Prod.ext w.1 w.2)
      omega
    rcases List.mem_cons.mp ht with rfl | ht
    · have : t * 1 ≤ t * (s.1 + s.2) := Int.mul_le_mul_of_nonneg_left hne hu
      rw [Int.mul_add] at this
      omega
    · exact tot_le r ts hg' hp' (by omega) (by simpa using hl) t ht
end Ev
end L2

namespace L2
namespace Ev
open PyProof.Rows PySem.Spec PySem L2
variable [Tb]
/-! ### for over a dict: locked meanwhile -/
theorem frz_at {X : Cx} {pins : List (Addr × Obj)} {σ : St} {H : Hp} {s : Shared} {d : Addr} {od : Obj} {u : HO} (I : Inv X pins σ H s) (h : H d = some (.frz od u)) : s.heap.get? d = some od := (I.hok d _ h).1
/-- the keys of the locked dict at d -/
def ItKr (d : Addr) (od : Obj) (vs : List V) : It := ⟨fun i H => (∃ u, H d = some (.frz od u)) ∧ i < vs.length, fun i H x H' => H' = H ∧ vs[i]? = some x, fun i H => (∃ u, H d = some (.frz od u)) ∧ vs.length = i⟩
theorem turn_keysR {P : Program} {w : World} {K : PySem.W.Frag} {tg : Expr} {d : Addr} {od : Obj} {es : Array DictEntry} {ep : Nat} {vs : List V} (it : Addr) (hx : od.ExactDict) (hdt : od.data = .dict es ep) (rv : Vals vs (es.toList.map (·.key))) :
    L2.Turn P w K tg (ItKr d od vs) [it] it (fun i h => h.IsKeyIter it d i es.size ep) where
  mem := by simp
  obj := fun i h st b hb => by
    have e : b = it := by simpa using hb
    subst e
    obtain ⟨oi, e, c, dd⟩ := st
    exact ⟨oi, e, fun v z => by rw [dd] at z; cases z⟩
  keep := fun i h h' st k => st.at fun oi e => k it (by simp) oi e
  item := by
    intro X hP hw hK hc i pins s σ H E I hf st hg
    subst hP hw hK
    obtain ⟨⟨u, hd⟩, hi⟩ := hg
    obtain ⟨f0, f1, f2, f3, f4, f5⟩ := hf it (by simp)
    have hgd := frz_at I hd
    have hl : vs.length = es.size := by rw [rv.length, List.length_map, Array.length_toList]
    have hi' : i < es.size := by omega
    refine wpAny_pyNext_keys_item_raw st ⟨od, hgd, hx, hdt⟩ hi' fun h' st' sb => ?_
    have I1 : Inv X pins σ H { s with heap := h' } := I.turned (t' := s.toks) (fun b ob hb e => sb.extBut b ob hb e) f0 f1 f3 f4 f5
    obtain ⟨oi, e, c, dd⟩ := id st'
    obtain ⟨q, hq, rq⟩ := rv.get (List.getElem?_eq_getElem hi)
    have hq' : q = es[i].key := by
      rw [List.getElem?_map, Array.getElem?_toList, Array.getElem?_eq_getElem hi'] at hq
      exact (Option.some.inj hq).symm
    subst hq'
    exact ⟨_, rfl, go_of (s := { s with heap := h' }) e c dd (by decide) ⟨vs[i], H, I1, rq, ⟨rfl, List.getElem?_eq_getElem hi⟩, st', fun b hb => (hf b hb).1⟩⟩
  done := by
    intro X hP hw hK hc i pins s σ H E I hf st hg
    subst hP hw hK
    obtain ⟨⟨u, hd⟩, hi⟩ := hg
    obtain ⟨f0, f1, f2, f3, f4, f5⟩ := hf it (by simp)
    have hgd := frz_at I hd
    have hl : vs.length = es.size := by rw [rv.length, List.length_map, Array.length_toList]
    exact wpAny_pyNext_keys_end_raw (I.ok.hd hc) st ⟨od, hgd, hx, hdt⟩ (by omega) fun h' eb => ⟨rfl, I.turned (t' := s.toks) (fun b ob hb e => eb b ob hb e) f0 f1 f3 f4 f5⟩
  self := fun A i s Q E st h => wpAny_pyIter_keyiter st h
/-- J walks the keys ds while the dict at a is locked as od -/
structure KWalk (m : Md) (J : It) (a : Addr) (od : Obj) (ds : List D) (W : Wd) : Prop where
  go : ∀ W1 (i : Nat) d, Ext m.K W W1 → (∃ u, W1.H a = some (.frz od u)) → Ok m W1 → ds[i]? = some d → J.go i W1.H ∧ ∀ x H', J.yld i W1.H x H' → H' = W1.H ∧ Rp m.K W1 d x
  stop : ∀ W1, Ext m.K W W1 → (∃ u, W1.H a = some (.frz od u)) → Ok m W1 → J.stop ds.length W1.H
def tIK (m : Md) (f : ME) : TI := fun σ H R => ∃ W ρ x S', W.H = H ∧ Ok m W ∧ Rσ m.K W ρ σ ∧ f ρ W.S = some (x, S') ∧ ∀ W' v, Stp m W S' W' → Rp m.K W' x v →
  ∃ a od u kvs, v = .ref a ∧ W'.H a = some (.frz od u) ∧ DcOb m.P m.w m.K W' a kvs u ∧ ∀ J, KWalk m J a od (kvs.map (·.1)) W' → R J W'.H
section
variable {X : Cx} {e tg : Expr} {fa : ME} {pos : Pos}
theorem pi_keysE (h : EvE X e fa) : PI X tg e (tIK (md X) fa) := by
  refine ⟨fun pins s σ H R I q => ?_⟩
  obtain ⟨W, ρ, x, S', rfl, ok, hρ, e1, q⟩ := q
  refine thn (h.run pins s σ W.H (fun v H1 => ∃ W1, W1.H = H1 ∧ Stp (md X) W S' W1 ∧ Rp X.K W1 x v) I ⟨W, ρ, x, S', rfl, ok, hρ, e1, fun W1 v st r => ⟨W1, rfl, st, r⟩⟩) fun uv s1 ⟨v, H1, I1, rv, W1, eW, st, r⟩ => ?_
  subst eW
  obtain ⟨a, od, u, kvs, rfl, hH, hO, q⟩ := q W1 v st r
  obtain rfl : uv = .ref a := rv
  obtain ⟨hs, hd⟩ := hd_open I1 (.inr ⟨od, hH⟩) hO
  obtain ⟨es, ep, g1, g2, g3⟩ := hd.raw
  obtain ⟨o', ho', hx, hdt⟩ := id g1
  have := frz_at I1 hH
  rw [this] at ho'
  cases ho'
  have hl : (es.toList.map (·.key)).length = (kvs.map (·.1)).length := by rw [List.length_map, List.length_map, Array.length_toList, g2]
  obtain ⟨vs, k1, k2⟩ := is_row (K := X.K) (W := W1) hl fun j z ez => by
    rw [List.getElem?_map] at ez
    obtain ⟨en, he, rfl⟩ := Option.map_eq_some_iff.mp ez
    rw [Array.getElem?_toList] at he
    obtain ⟨hj, rfl⟩ := Array.getElem?_eq_some_iff.mp he
    obtain ⟨p, z1, z2, _⟩ := g3 j hj
    exact ⟨p.1, by rw [List.getElem?_map, z1]; rfl, z2⟩
  refine wpAny_pyIter_dict_raw hs g1 ?_
  refine pi_one (tk := s1.toks) I1 _ (turn_keysR _ hx hdt k2) ⟨_, Heap.get?_push_size _ rfl, rfl, rfl⟩ (q _ ⟨fun W2 i d ex hu ok2 hdd => ?_, fun W2 ex hu ok2 => ?_⟩)
  · obtain ⟨y, hy, ry⟩ := k1.get hdd
    refine ⟨⟨hu, (List.getElem?_eq_some_iff.mp hy).1⟩, fun z H' hz => ⟨hz.1, ?_⟩⟩
    have := hz.2
    rw [hy] at this
    cases this
    exact ex _ _ ry
  · exact ⟨hu, k1.length.symm⟩
end
/-! the world while a dict is locked -/
section
variable {P : Program} {w : World} {K : PySem.W.Frag} {W : Wd}
theorem frz_plain {od : Obj} {u : HO} : plainO (.frz od u) := ⟨fun _ z => (nomatch z), fun _ _ z => (by unfold LamX.CodeO at z; cases z)⟩
theorem lock_world (ok : WOk P w K W) {n : Nat} {a : Addr} {kvs : List (D × D)} {u : HO} (hn : W.μ[n]? = some a) (hS : W.S[n]? = some (.dct kvs)) (hH : W.H a = some u) (hO : DcOb P w K W a kvs u) (od : Obj) :
    WOk P w K { W with H := upd W.H a (.frz od u), S := W.S.set n .dead, hid := a :: W.hid } ∧ Ext K W { W with H := upd W.H a (.frz od u), S := W.S.set n .dead, hid := a :: W.hid } := by
  have notL : ∀ (xs : List V), W.H a ≠ some (.lst xs) ∧ W.H a ≠ some (.tup xs) ∧ ∀ o x, W.H a ≠ some (.frz o x) := fun xs => by
    obtain ⟨_, ⟨ks, rfl, _⟩ | ⟨_, ks, rfl, _⟩⟩ := hO <;> rw [hH] <;> exact ⟨fun z => (by cases z), fun z => (by cases z), fun o x z => (by cases z)⟩
  have hap := ok.apart n a _ hn hS (fun z => nomatch z)
  have e : Ext K W { W with H := upd W.H a (.frz od u), S := W.S.set n .dead, hid := a :: W.hid } := Ext.of (fun b xs h => by
      rcases h with h | h
      · rcases h with h | ⟨o, h⟩
        · exact .inl (.inl (by show upd W.H a _ b = _; rw [upd_ne (fun z => by subst z; exact (notL xs).2.1 h)]; exact h))
        · exact .inl (.inr ⟨o, by show upd W.H a _ b = _; rw [upd_ne (fun z => by subst z; exact (notL xs).2.2 _ _ h)]; exact h⟩)
      · exact .inr h)
    (fun b xs h f => by
      have hb : b ≠ a := fun z => by subst z; exact (notL xs).1 h
      refine ⟨by show upd W.H a _ b = _; rw [upd_ne hb]; exact h, fun z => ?_, fun k c h1 h2 => ?_⟩
      · rcases List.mem_cons.mp z with z | z
        · exact hb z
        · exact f.1 z
      · have g2 : (W.S.set n .dead)[k]? = some c := h2
        rw [List.getElem?_set] at g2
        split at g2
        · split at g2
          · cases g2; rfl
          · cases g2
        · exact f.2 k c h1 g2)
    (fun b o xs h => by
      have hb : b ≠ a := fun z => by subst z; exact (notL xs).2.2 _ _ h
      show upd W.H a _ b = _; rw [upd_ne hb]; exact h) fun k b h => h
  refine ⟨⟨?_, fun i j b c d h1 h2 h3 h4 => ?_, fun k b c h1 h2 => ?_, fun b hb => ?_, fun k b c h1 h2 h3 => ?_, ?_⟩, e⟩
  rotate_right
  · obtain ⟨u', hu, pu⟩ := (ok.cell n a _ hn hS).plain (fun z => nomatch z)
    exact ok.tab.put hu pu rfl frz_plain fun b hb => (List.mem_cons.mp hb).symm
  · show W.μ.length = (W.S.set n .dead).length
    rw [List.length_set]; exact ok.len
  · intro hc hd
    have h3 : (W.S.set n .dead)[i]? = some c := h3
    have h4 : (W.S.set n .dead)[j]? = some d := h4
    rw [List.getElem?_set] at h3 h4
    split at h3
    · split at h3
      · cases h3; exact absurd rfl hc
      · cases h3
    · split at h4
      · split at h4
        · cases h4; exact absurd rfl hd
        · cases h4
      · exact ok.inj i j b c d h1 h2 h3 h4 hc hd
  · have g2 : (W.S.set n .dead)[k]? = some c := h2
    rw [List.getElem?_set] at g2
    split at g2
    · split at g2
      · cases g2; trivial
      · cases g2
    · by_cases hd : c = .dead
      · subst hd; trivial
      · rename_i hk
        have q := ok.cell k b c h1 g2
        have hb : b ≠ a := fun z => by
          subst z
          exact hk (ok.inj n k b _ _ hn h1 hS g2 (fun z => nomatch z) hd)
        exact q.ext e (upd_ne hb)
  · show upd W.H a _ b ≠ none
    rcases List.mem_cons.mp hb with rfl | hb
    · rw [upd_same]; exact fun z => nomatch z
    · by_cases h : b = a
      · subst h; rw [upd_same]; exact fun z => nomatch z
      · rw [upd_ne h]; exact ok.hid b hb
  · have g2 : (W.S.set n .dead)[k]? = some c := h2
    rw [List.getElem?_set] at g2
    split at g2
    · split at g2
      · cases g2; exact absurd rfl h3
      · cases g2
    · rename_i hk
      intro z
      rcases List.mem_cons.mp z with z | z
      · subst z
        exact hk (ok.inj n k b _ _ hn h1 hS g2 (fun z => nomatch z) h3)
      · exact ok.apart k b c h1 g2 h3 z
/-- and when it is open again -/
theorem unlock_world {W1 : Wd} {n : Nat} {a : Addr} {kvs : List (D × D)} {u : HO} {od : Obj} {S' : Store} (ok : WOk P w K W) (hn : W.μ[n]? = some a) (hS : W.S[n]? = some (.dct kvs)) (hH : W.H a = some u) (hO : DcOb P w K W a kvs u)
    (st : Step P w K { W with H := upd W.H a (.frz od u), S := W.S.set n .dead, hid := a :: W.hid } S' W1) : W1.H a = some (.frz od u) ∧ Ext K W1 { W1 with H := upd W1.H a u, S := S'.set n (.dct kvs), hid := W.hid } ∧ Step P w K W (S'.set n (.dct kvs)) { W1 with H := upd W1.H a u, S := S'.set n (.dct kvs), hid := W.hid } := by
  obtain ⟨okl, exl⟩ := lock_world ok hn hS hH hO od
  have hd1 : W1.hid = a :: W.hid := st.hid
  have ha : W1.H a = some (.frz od u) := by
    have := st.keep a List.mem_cons_self
    rw [this]; exact upd_same
  have hμ : W1.μ[n]? = some a := by
    obtain ⟨b, e1, e2⟩ := st.ext (.ref n) (.ref a) ⟨a, rfl, hn⟩
    cases e1; exact e2
  have hap := ok.apart n a _ hn hS (fun z => nomatch z)
  have notL : ∀ (xs : List V), W1.H a ≠ some (.lst xs) ∧ W1.H a ≠ some (.tup xs) ∧ ∀ o, W1.H a ≠ some (.frz o (.lst xs)) ∧ W1.H a ≠ some (.frz o (.tup xs)) := fun xs => by
    rw [ha]
    obtain ⟨_, ⟨ks, rfl, _⟩ | ⟨_, ks, rfl, _⟩⟩ := hO <;> exact ⟨fun z => (by cases z), fun z => (by cases z), fun o => ⟨fun z => (by cases z), fun z => (by cases z)⟩⟩
  have hlt : n < S'.length := by
    have h1 := (List.getElem?_eq_some_iff.mp hμ).1
    have g2 := st.ok.len
    rw [st.st] at g2; omega
  have eS : W1.S = S' := st.st
  have live : ∀ (k : Nat) (b : Addr) (c : Cell), W1.μ[k]? = some b → W1.S[k]? = some c → c ≠ .dead → b ≠ a := fun k b c h1 g2 h3 z => by
    subst z
    exact st.ok.apart k b c h1 g2 h3 (by rw [hd1]; exact List.mem_cons_self)
  have e : Ext K W1 { W1 with H := upd W1.H a u, S := S'.set n (.dct kvs), hid := W.hid } := Ext.of (fun b xs h => by
      rcases h with h | h
      · rcases h with h | ⟨o, h⟩
        · exact .inl (.inl (by show upd W1.H a _ b = _; rw [upd_ne (fun z => by subst z; exact (notL xs).2.1 h)]; exact h))
        · exact .inl (.inr ⟨o, by show upd W1.H a _ b = _; rw [upd_ne (fun z => by subst z; exact ((notL xs).2.2 o).2 h)]; exact h⟩)
      · exact .inr h)
    (fun b xs h f => by
      have hb : b ≠ a := fun z => by subst z; exact (notL xs).1 h
      refine ⟨by show upd W1.H a _ b = _; rw [upd_ne hb]; exact h, fun z => f.1 (by rw [hd1]; exact List.mem_cons_of_mem _ z), fun k c h1 g2 => ?_⟩
      have g2 : (S'.set n (.dct kvs))[k]? = some c := g2
      rw [List.getElem?_set] at g2
      split at g2
      · rename_i hk
        subst hk
        have h1 : W1.μ[n]? = some b := h1
        rw [hμ] at h1
        cases h1
        exact absurd rfl hb
      · exact f.2 k c h1 (by rw [eS]; exact g2))
    (fun b o xs h => by
      have hb : b ≠ a := fun z => by subst z; exact ((notL xs).2.2 o).1 h
      show upd W1.H a _ b = _; rw [upd_ne hb]; exact h) fun k b h => h
  have exW : Ext K W { W1 with H := upd W1.H a u, S := S'.set n (.dct kvs), hid := W.hid } := (exl.trans st.ext).trans e
  refine ⟨ha, e, exW, ⟨?_, fun i j b c d h1 h2 h3 h4 hc hd => ?_, fun k b c h1 h2 => ?_, fun b hb => ?_, fun k b c h1 h2 h3 => ?_, ?_⟩, rfl, rfl, fun b hb => ?_⟩
  rotate_left 5
  · obtain ⟨u', hu, pu⟩ := (ok.cell n a _ hn hS).plain (fun z => nomatch z)
    rw [hH] at hu
    cases hu
    exact st.ok.tab.put ha frz_plain rfl pu fun b hb => .inl (by rw [hd1]; exact List.mem_cons_of_mem _ hb)
  rotate_right 5
  · show W1.μ.length = (S'.set n (.dct kvs)).length
    rw [List.length_set, ← eS]; exact st.ok.len
  · have h3 : (S'.set n (.dct kvs))[i]? = some c := h3
    have h4 : (S'.set n (.dct kvs))[j]? = some d := h4
    have h1 : W1.μ[i]? = some b := h1
    have h2 : W1.μ[j]? = some b := h2
    rw [List.getElem?_set] at h3 h4
    by_cases hi : n = i
    · by_cases hj : n = j
      · rw [← hi, ← hj]
      · rw [if_neg hj] at h4
        subst hi
        rw [hμ] at h1; cases h1
        exact absurd rfl (live j a d h2 (by rw [eS]; exact h4) hd)
    · rw [if_neg hi] at h3
      by_cases hj : n = j
      · subst hj
        rw [hμ] at h2; cases h2
        exact absurd rfl (live i a c h1 (by rw [eS]; exact h3) hc)
      · rw [if_neg hj] at h4
        exact st.ok.inj i j b c d h1 h2 (by rw [eS]; exact h3) (by rw [eS]; exact h4) hc hd
  · have g2 : (S'.set n (.dct kvs))[k]? = some c := h2
    have h1 : W1.μ[k]? = some b := h1
    rw [List.getElem?_set] at g2
    split at g2
    · rename_i hk
      subst hk
      cases g2
      rw [hμ] at h1; cases h1
      exact ⟨u, upd_same, exW.dcOb hO⟩
    · by_cases hd : c = .dead
      · subst hd; trivial
      · have hb := live k b c h1 (by rw [eS]; exact g2) hd
        exact (st.ok.cell k b c h1 (by rw [eS]; exact g2)).ext e (upd_ne hb)
  · show upd W1.H a u b ≠ none
    have hb1 := st.ok.hid b (by rw [hd1]; exact List.mem_cons_of_mem _ hb)
    by_cases h : b = a
    · subst h; rw [upd_same]; exact fun z => nomatch z
    · rw [upd_ne h]; exact hb1
  · have g2 : (S'.set n (.dct kvs))[k]? = some c := h2
    have h1 : W1.μ[k]? = some b := h1
    rw [List.getElem?_set] at g2
    split at g2
    · rename_i hk
      subst hk
      rw [hμ] at h1; cases h1
      exact hap
    · exact fun z => st.ok.apart k b c h1 (by rw [eS]; exact g2) h3 (by rw [hd1]; exact List.mem_cons_of_mem _ z)
  · show upd W1.H a u b = _
    have hb' : b ≠ a := fun z => hap (z ▸ hb)
    rw [upd_ne hb', st.keep b (List.mem_cons_of_mem _ hb)]
    exact upd_ne hb'
end
end Ev
end L2

namespace L2
namespace Ev
open PyProof.Rows PySem.Spec PySem L2
variable [Tb]
/-! ### for x in e, e a list, a tuple, a dict -/
def Res.fix (n : Nat) (c : Cell) : Res → Res
  | .nx ρ S => .nx ρ (S.set n c)
  | .rt d S => .rt d (S.set n c)
  | .bk ρ S => .bk ρ (S.set n c)
  | .ct ρ S => .ct ρ (S.set n c)
def dctAt (S : Store) : D → Option (Nat × List (D × D))
  | .ref n => match S[n]? with
    | some (.dct kvs) => some (n, kvs)
    | _ => none
  | _ => none
noncomputable def sForK (f : ME) (tg : FG) (body : MS) : MS := fun ρ S => (f ρ S).bind fun p => match dctAt p.2 p.1 with
  | none => (seqW p.1 p.2).bind fun q => forL q.1.2 tg body q.1.1 ρ q.2
  | some (n, kvs) => open Classical in if p.2 = S ∧ f ρ (S.set n .dead) = some (p.1, S.set n .dead) then (forL gYes tg body (kvs.map (·.1)) ρ (S.set n .dead)).map (Res.fix n (.dct kvs)) else none
section
variable {m : Md} {W W1 : Wd} {n : Nat} {a : Addr} {kvs : List (D × D)} {u : HO} {od : Obj}
def lockE (a : Addr) (od : Obj) (u : HO) (D : Ends) : Ends := ⟨fun σ' H' => H' a = some (.frz od u) ∧ D.nx σ' (upd H' a u), fun v H' => H' a = some (.frz od u) ∧ D.rt v (upd H' a u), fun σ' H' => H' a = some (.frz od u) ∧ D.bk σ' (upd H' a u), fun σ' H' => H' a = some (.frz od u) ∧ D.ct σ' (upd H' a u)⟩
theorem pst_fix (ok : Ok m W) (hn : W.μ[n]? = some a) (hS : W.S[n]? = some (.dct kvs)) (hH : W.H a = some u) (hO : DcOb m.P m.w m.K W a kvs u) {E : Ends} {r : Res} (q : PstS m W E (r.fix n (.dct kvs))) :
    PstS m { W with H := upd W.H a (.frz od u), S := W.S.set n .dead, hid := a :: W.hid } (lockE a od u E) r := by
  cases r with
  | nx ρ S =>
    exact fun W1 σ' st hρ => by
      obtain ⟨h1, h2, h3⟩ := unlock_world ok hn hS hH hO st
      exact ⟨h1, q _ σ' h3 (h2.rσ hρ)⟩
  | bk ρ S =>
    exact fun W1 σ' st hρ => by
      obtain ⟨h1, h2, h3⟩ := unlock_world ok hn hS hH hO st
      exact ⟨h1, q _ σ' h3 (h2.rσ hρ)⟩
  | ct ρ S =>
    exact fun W1 σ' st hρ => by
      obtain ⟨h1, h2, h3⟩ := unlock_world ok hn hS hH hO st
      exact ⟨h1, q _ σ' h3 (h2.rσ hρ)⟩
  | rt d S =>
    exact fun W1 v st hv => by
      obtain ⟨h1, h2, h3⟩ := unlock_world ok hn hS hH hO st
      exact ⟨h1, q _ v h3 (h2 _ _ hv)⟩
end
section
variable {X : Cx} {e tg : Expr} {fa : ME} {pos : Pos} {body : List Stmt} {f : MS}
theorem s_forK {g : FG} {ts : List Nat} (hp : PassesOwn (model X.prog X.w) X.A X.env X.xe) (hc : X.calm = true) (h : EvE X e fa) (hg : EvG X tg g ts) (hb : EvB X body f)
    (hs : ∀ x, foldedSetIterable e X.env x = pure x := by intro _; rfl) : EvS X (.For tg e body [] pos) (sForK fa g f) := ⟨fun pins s σ H E I q => by
  obtain ⟨W, ρ, r, rfl, ok, hρ, he, q⟩ := q
  unfold sForK at he
  rw [Option.bind_eq_some_iff] at he
  obtain ⟨⟨x, S1⟩, e1, he⟩ := he
  dsimp only at he
  split at he
  · refine (s_for (pos := pos) hp hc (i_seq h) hg hb hs).run pins s σ W.H E I ⟨W, ρ, r, rfl, ok, hρ, ?_, q⟩
    unfold sFor
    rw [iSeq_r, e1]
    exact he
  · rename_i n kvs hd
    split at he
    · rename_i hcc
      obtain ⟨hcc, hcd⟩ := hcc
      obtain rfl : S1 = W.S := hcc
      have hx : x = .ref n ∧ W.S[n]? = some (.dct kvs) := by
        cases x with
        | ref k =>
          simp only [dctAt] at hd
          split at hd
          · rename_i e; cases hd; exact ⟨rfl, e⟩
          · cases hd
        | _ => cases hd
      obtain ⟨rfl, hS⟩ := hx
      simp only [Option.map_eq_some_iff] at he
      obtain ⟨r0, he, rfl⟩ := he
      -- the place's address
      have hμl : n < W.μ.length := by rw [ok.len]; exact (List.getElem?_eq_some_iff.mp hS).1
      have hn : W.μ[n]? = some W.μ[n] := List.getElem?_eq_getElem hμl
      generalize W.μ[n] = a at hn
      obtain ⟨u, hH, hO⟩ := ok.cell n a _ hn hS
      refine (ps_lock (ps_for (pos := pos) hp hc (pi_keysE h) hg hb hs)).run pins s σ W.H E I ⟨a, u, hH, mut_dc hO, fun od => ?_⟩
      obtain ⟨okl, exl⟩ := lock_world ok hn hS hH hO od
      have q0 := pst_fix (od := od) ok hn hS hH hO q
      refine ⟨_, ρ, .ref n, W.S.set n .dead, rfl, okl, exl.rσ hρ, hcd, fun W' v st rv => ?_⟩
      obtain ⟨b, rfl, hb2⟩ := id rv
      have hμ' : W'.μ[n]? = some a := by
        obtain ⟨b', e2, e3⟩ := st.ext (.ref n) (.ref a) ⟨a, rfl, hn⟩
        cases e2; exact e3
      rw [hμ'] at hb2
      cases hb2
      have ha' : W'.H a = some (.frz od u) := (st.keep a List.mem_cons_self).trans upd_same
      refine ⟨a, od, u, kvs, rfl, ha', st.ext.dcOb (exl.dcOb hO), fun J wk => ?_⟩
      have hid' : W'.hid = a :: W.hid := st.hid
      refine ⟨fun i k σ1 H1 => i + k = (kvs.map (·.1)).length ∧ ∃ W1 ρ1, W1.H = H1 ∧ Ok (md X) W1 ∧ Ext X.K W' W1 ∧ (W1.hid = W'.hid ∧ ∀ a ∈ W'.hid, W1.H a = W'.H a) ∧ Rσ X.K W1 ρ1 σ1 ∧ forL gYes g f ((kvs.map (·.1)).drop i) ρ1 W1.S = some r0 ∧ PstS (md X) W1 (lockE a od u E) r0,
        ⟨(kvs.map (·.1)).length, by omega, W', ρ, rfl, st.ok, Ext.refl, ⟨rfl, fun _ _ => rfl⟩, st.ext.rσ (exl.rσ hρ), by rw [List.drop_zero, st.st]; exact he, q0.step st⟩, ?_⟩
      rintro i k σ1 _ ⟨hik, W1, ρ1, rfl, ok1, ex1, ⟨hd1, kp1⟩, hρ1, h1, q1⟩
      have hu1 : ∃ u, W1.H a = some (.frz od u) := ⟨u, (kp1 a (by rw [hid']; exact List.mem_cons_self)).trans ha'⟩
      by_cases hi : i < (kvs.map (·.1)).length
      · right
        have hd : (kvs.map (·.1))[i]? = some (kvs.map (·.1))[i] := List.getElem?_eq_getElem hi
        rw [List.drop_eq_getElem_cons hi, forL, if_pos (gYes_r (S := W1.S))] at h1
        obtain ⟨go, yl⟩ := wk.go W1 i _ ex1 hu1 ok1 hd
        rw [Option.bind_eq_some_iff] at h1
        obtain ⟨ρ2, e2, h1⟩ := h1
        rw [Option.bind_eq_some_iff] at h1
        obtain ⟨r1, e3, h1⟩ := h1
        refine ⟨go, fun σ' H' => ∃ k', k' < k ∧ i + 1 + k' = (kvs.map (·.1)).length ∧ ∃ W1 ρ1, W1.H = H' ∧ Ok (md X) W1 ∧ Ext X.K W' W1 ∧ (W1.hid = W'.hid ∧ ∀ a ∈ W'.hid, W1.H a = W'.H a) ∧ Rσ X.K W1 ρ1 σ' ∧ forL gYes g f ((kvs.map (·.1)).drop (i + 1)) ρ1 W1.S = some r0 ∧ PstS (md X) W1 (lockE a od u E) r0, fun σ' H' h => h, fun x H' hy => ?_⟩
        obtain ⟨rfl, rx⟩ := yl x H' hy
        refine ⟨W1, ρ1, _, ρ2, rfl, ok1, hρ1, rx, e2, fun σ2 hρ2 _ => ⟨W1, ρ2, r1, rfl, ok1, hρ2, e3, ?_⟩⟩
        have kp : ∀ {W3 : Wd} {S3 : Store}, Stp (md X) W1 S3 W3 → W3.hid = W'.hid ∧ ∀ a ∈ W'.hid, W3.H a = W'.H a := fun {W3 S3} st3 => ⟨st3.hid.trans hd1, fun a ha => (st3.keep a (by rw [hd1]; exact ha)).trans (kp1 a ha)⟩
        cases r1 with
        | nx ρ3 S3 => exact fun W3 σ3 st3 hρ3 => ⟨k - 1, by omega, by omega, W3, ρ3, rfl, st3.ok, ex1.trans st3.ext, kp st3, hρ3, by rw [st3.st]; exact h1, q1.step st3⟩
        | ct ρ3 S3 => exact fun W3 σ3 st3 hρ3 => ⟨k - 1, by omega, by omega, W3, ρ3, rfl, st3.ok, ex1.trans st3.ext, kp st3, hρ3, by rw [st3.st]; exact h1, q1.step st3⟩
        | bk ρ3 S3 => cases h1; exact q1
        | rt d S3 => cases h1; exact q1
      · left
        have e : i = (kvs.map (·.1)).length := by omega
        subst e
        rw [List.drop_length, forL, if_pos (gYes_r (S := W1.S))] at h1
        cases h1
        exact ⟨wk.stop W1 ex1 hu1 ok1, q1 W1 σ1 (Step.refl ok1) hρ1⟩
    · cases he⟩
theorem sForK_r {g : FG} {ρ : EnvD} {S : Store} : sForK fa g f ρ S = (fa ρ S).bind fun p => match dctAt p.2 p.1 with
  | none => (seqW p.1 p.2).bind fun q => forL q.1.2 g f q.1.1 ρ q.2
  | some (n, kvs) => open Classical in if p.2 = S ∧ fa ρ (S.set n .dead) = some (p.1, S.set n .dead) then (forL gYes g f (kvs.map (·.1)) ρ (S.set n .dead)).map (Res.fix n (.dct kvs)) else none := (rfl)
/-- over a sequence -/
theorem forK_seq {g : FG} {ρ : EnvD} {S S1 : Store} {x : D} {xs : List D} {gd : Store → Bool} (h : fa ρ S = some (x, S1)) (hd : dctAt S1 x = none) (hs : seqW x S1 = some ((xs, gd), S1)) : sForK fa g f ρ S = forL gd g f xs ρ S1 := by
  rw [sForK_r, h]
  simp only [Option.bind_some, hd, hs]
/-- over a dict's keys -/
theorem forK_dct {g : FG} {ρ : EnvD} {S : Store} {n : Nat} {kvs : List (D × D)} (h : fa ρ S = some (.ref n, S)) (hS : S[n]? = some (.dct kvs)) (h2 : fa ρ (S.set n .dead) = some (.ref n, S.set n .dead)) : sForK fa g f ρ S = (forL gYes g f (kvs.map (·.1)) ρ (S.set n .dead)).map (Res.fix n (.dct kvs)) := by
  rw [sForK_r, h]
  have : dctAt S (.ref n) = some (n, kvs) := by simp only [dctAt, hS]
  simp only [Option.bind_some, this]
  rw [if_pos ⟨rfl, h2⟩]
@[simp] theorem dctAt_tup {S : Store} {xs : List D} : dctAt S (.tup xs) = none := rfl
@[simp] theorem dctAt_lst {S : Store} {xs : List D} : dctAt S (.lst xs) = none := rfl
@[simp] theorem dctAt_scr {S : Store} {xs : List Int} : dctAt S (.scr xs) = none := rfl
end
end Ev
end L2

namespace L2
namespace Ev
open PyProof.Rows PySem.Spec PySem L2
variable [Tb]
open Enc (e)
/-! ### len(d), list(d) -/
def fLenA : List D → M D := fun ds S => match ds with
  | [x] => match dctOf S x with
    | some kvs => some (.int kvs.length, S)
    | none => fLen [x] S
  | _ => none
theorem f_lenA {X : Cx} : Bf X (.builtin "len") fLenA := fun pins s σ H xs us Q I r h => by
  obtain ⟨W, ds, d, S', rfl, ok, rs, he, q⟩ := id h
  unfold fLenA at he
  split at he
  · rename_i x
    split at he
    · rename_i kvs hk
      cases he
      obtain ⟨v, rfl, r1⟩ := rps_one rs
      obtain ⟨u, rfl, ru⟩ := vals1 r
      obtain ⟨a, rfl, hs, hz, hd⟩ := dct_open I ok hk r1
      obtain rfl : u = .ref a := ru
      rw [sizeLine_eq] at hz
      cases hd with
      | k ks vs r2 q2 dd =>
        have hl : kvs.length = vs.length := by rw [r2.length, q2.length]
        refine call_len_dict hs dd (by omega) ?_
        rw [← hl]
        exact ⟨.int kvs.length, W.H, I.tok _, ⟨_, rfl⟩, q.val ok rfl⟩
      | n ks ws ne r2 q2 dd =>
        have hl : kvs.length = ws.length := by rw [r2.length]; exact Paired.length q2
        refine call_len_dictH hs dd (by omega) ?_
        rw [← hl]
        exact ⟨.int kvs.length, W.H, I.tok _, ⟨_, rfl⟩, q.val ok rfl⟩
    · exact f_len0 pins s σ W.H xs us Q I r ⟨W, [x], d, S', rfl, ok, rs, he, q⟩
  · cases he
def fListA (mu : Bool) : List D → M D := fun ds S => match ds with
  | [x] => match dctOf S x with
    | some kvs => newL mu (kvs.map (·.1)) S
    | none => fList mu [x] S
  | _ => none
theorem f_listA {X : Cx} (hc : X.calm = true) (mu : Bool) : Bf X (.type "list") (fListA mu) := fun pins s σ H xs us Q I r h => by
  obtain ⟨W, ds, d, S', rfl, ok, rs, he, q⟩ := id h
  unfold fListA at he
  split at he
  · rename_i x
    split at he
    · rename_i kvs hk
      have hlen := newL_len he
      obtain ⟨v, rfl, r1⟩ := rps_one rs
      obtain ⟨u, rfl, ru⟩ := vals1 r
      obtain ⟨a, rfl, hs, hz, hd⟩ := dct_open I ok hk r1
      obtain rfl : u = .ref a := ru
      obtain ⟨es, ep, g1, g2, g3⟩ := hd.raw
      refine PySem.W.kdl_call (KdlSrc.rawDict hs) (I.ok.hd hc) g1 (by omega) fun h' tk acc c' hk' hD hacc => ?_
      have hal : acc.toList.length = (kvs.map (·.1)).length := by rw [Array.length_toList, hacc.1, g2, List.length_map]
      obtain ⟨vs, k1, k2⟩ := is_row (K := X.K) (W := W) hal fun j u e => by
        obtain ⟨hi, rfl⟩ := hacc.2 j u (by rw [← Array.getElem?_toList]; exact e)
        obtain ⟨p, z1, z2, _⟩ := g3 j hi
        exact ⟨p.1, by rw [List.getElem?_map, z1]; rfl, z2⟩
      exact ⟨.ref s.heap.objs.size, upd W.H s.heap.objs.size (.lst vs), I.laid (t' := tk) hk' (Nat.le_refl _)
        (show ObjOk X.prog X.w _ _ _ (.lst vs) from ⟨by rw [← k1.length]; exact hlen, acc.toList, c', k2, by simpa using hD⟩), rfl, newL_ok he ok k1 (I.hok.fresh (Nat.le_refl _)) q⟩
    · exact f_list mu pins s σ W.H xs us Q I r ⟨W, [x], d, S', rfl, ok, rs, he, q⟩
  · cases he
section
variable {S : Store} {n : Nat} {kvs : List (D × D)} {mu : Bool}
theorem fLenA_dct (h : S[n]? = some (.dct kvs)) : fLenA [.ref n] S = some (.int kvs.length, S) := by
  have : dctOf S (.ref n) = some kvs := by simp only [dctOf, h]
  simp only [fLenA, this]
@[simp] theorem fLenA_tup {xs : List D} : fLenA [.tup xs] S = some (.int xs.length, S) := (rfl)
@[simp] theorem fLenA_lst {xs : List D} : fLenA [.lst xs] S = some (.int xs.length, S) := (rfl)
theorem fListA_dct (h : S[n]? = some (.dct kvs)) : fListA mu [.ref n] S = newL mu (kvs.map (·.1)) S := by
  have : dctOf S (.ref n) = some kvs := by simp only [dctOf, h]
  simp only [fListA, this]
@[simp] theorem fListA_tup {xs : List D} : fListA mu [.tup xs] S = newL mu xs S := (rfl)
@[simp] theorem fListA_lst {xs : List D} : fListA mu [.lst xs] S = newL mu xs S := (rfl)
end
/-! ### tuples of ints, less -/
theorem o_ltT {X : Cx} (hu : X.A.units + 190 < cLine) : Op2 X (compareOp .Lt) (fun x y S => match x, y with
  | .tup xs, .tup ys => (intsOf xs).bind fun a => (intsOf ys).map fun b => (.bl (HT.lexLt a b), S)
  | x, y => opLt x y S) := OpR.split fun x y H Q h => by
  obtain ⟨W, dx, dy, d, S', rfl, ok, r1, r2, he, q⟩ := h
  by_cases ht : (∃ xs, dx = .tup xs) ∧ ∃ ys, dy = .tup ys
  · obtain ⟨⟨xs, rfl⟩, ys, rfl⟩ := ht
    dsimp only at he
    rw [Option.bind_eq_some_iff] at he
    obtain ⟨a, e1, he⟩ := he
    simp only [Option.map_eq_some_iff] at he
    obtain ⟨b, e2, he⟩ := he
    cases he
    obtain ⟨p, vs, rfl, h1, h2⟩ := r1
    obtain ⟨p2, vs2, rfl, h12, h22⟩ := r2
    rw [intsOf_eq e1] at h2
    rw [intsOf_eq e2] at h22
    rw [Rps.ints_inv _ _ h2] at h1
    rw [Rps.ints_inv _ _ h22] at h12
    exact ⟨_, op_ltT (by omega), p, p2, a, b, rfl, rfl, h1, h12, q.val ok rfl⟩
  · have he' : opLt dx dy W.S = some (d, S') := by
      cases dx <;> first | exact he | (cases dy <;> first | exact he | exact absurd ⟨⟨_, rfl⟩, _, rfl⟩ ht)
    exact ⟨_, o_lt, W, dx, dy, d, S', rfl, ok, r1, r2, he', q⟩
end Ev
end L2

namespace L2
namespace Ev
open PyProof.Rows PySem.Spec PySem L2
variable [Tb]
open Enc (e)
/-! ### rounds over a grammar: what is known of each name grows until nothing comes -/
theorem eV_at {ρ : EnvD} {i : Nat} {d : D} {S : Store} (h : ρ[i]? = some (some d)) : eV i ρ S = some (d, S) := by unfold eV; rw [h]
theorem env_set {ρ : EnvD} {i j : Nat} {x : Option D} (h : i ≠ j) : (ρ.set i x)[j]? = ρ[j]? := List.getElem?_set_ne h
theorem env_self {ρ : EnvD} {i : Nat} {x : Option D} (h : i < ρ.length) : (ρ.set i x)[i]? = some x := List.getElem?_set_self h
section
variable {κ : Type} [EncK κ] [DecidableEq κ]
structure KnAt (S : Store) (rs : List Nat) (K : List (List κ)) : Prop where
  len : rs.length = K.length
  nd : rs.Nodup
  is : ∀ (i r : Nat) (k : List κ), rs[i]? = some r → K[i]? = some k → S[r]? = some (.dct (stD k))
theorem nd_get {α : Type} {l : List α} (h : l.Nodup) {i j : Nat} {x : α} (hi : l[i]? = some x) (hj : l[j]? = some x) : i = j := by
  obtain ⟨h1, e1⟩ := List.getElem?_eq_some_iff.mp hi
  obtain ⟨h2, e2⟩ := List.getElem?_eq_some_iff.mp hj
  rcases Nat.lt_trichotomy i j with z | z | z
  · exact absurd (e1.trans e2.symm) (List.pairwise_iff_getElem.mp h i j h1 h2 z)
  · exact z
  · exact absurd (e2.trans e1.symm) (List.pairwise_iff_getElem.mp h j i h2 h1 z)
theorem KnAt.set {S : Store} {rs : List Nat} {K : List (List κ)} (h : KnAt S rs K) {i r : Nat} {k' : List κ} (hr : rs[i]? = some r) : KnAt (S.set r (.dct (stD k'))) rs (K.set i k') := by
  refine ⟨by rw [List.length_set]; exact h.len, h.nd, fun j q k hj hk => ?_⟩
  have hi : i < K.length := by rw [← h.len]; exact (List.getElem?_eq_some_iff.mp hr).1
  by_cases hij : i = j
  · subst hij
    rw [hr] at hj; cases hj
    rw [List.getElem?_set_self hi] at hk; cases hk
    exact set_get (h.is i r _ hr (List.getElem?_eq_getElem hi))
  · rw [List.getElem?_set_ne hij] at hk
    have hrq : r ≠ q := fun z => hij (nd_get h.nd hr (z ▸ hj))
    rw [List.getElem?_set_ne hrq]
    exact h.is j q k hj hk
/-- one side's finds put in -/
def putS (F : Side → List (List κ) → List κ) (i : Nat) (K : List (List κ)) (s : Side) : List (List κ) := K.set i ((F s K).foldl ins (K.getD i []))
def putR (F : Side → List (List κ) → List κ) (K : List (List κ)) (p : Nat × Row) : List (List κ) := p.2.foldl (putS F p.1) K
def numbered {α : Type} (i : Nat) : List α → List (Nat × α)
  | [] => []
  | x :: r => (i, x) :: numbered (i + 1) r
def roundR (F : Side → List (List κ) → List κ) (g : Gram) (K : List (List κ)) : List (List κ) := (numbered 0 g).foldl (putR F) K
def total (K : List (List κ)) : Nat := (K.map (·.length)).sum
inductive Rounds (F : Side → List (List κ) → List κ) (g : Gram) : Int → List (List κ) → List (List κ) → Prop
  | stop {n : Int} {K : List (List κ)} (h : n = total K) : Rounds F g n K K
  | go {n : Int} {K R : List (List κ)} (h : n ≠ total K) (k : Rounds F g (total K) (roundR F g K) R) : Rounds F g n K R
structure EnvR (N : Nat) (g : Gram) (m : Int) (rs : List Nat) (ρ : EnvD) : Prop where
  len : ρ.length = N
  s0 : ρ[0]? = some (some (gramD g))
  s1 : ρ[1]? = some (some (.int m))
  s2 : ρ[2]? = some (some (.lst (rs.map .ref)))
theorem EnvR.set {N : Nat} {g : Gram} {m : Int} {rs : List Nat} {ρ : EnvD} (h : EnvR N g m rs ρ) (i : Nat) (x : Option D) (hi : 3 ≤ i := by decide) : EnvR N g m rs (ρ.set i x) :=
  ⟨by rw [List.length_set]; exact h.len, by rw [env_set (by omega)]; exact h.s0, by rw [env_set (by omega)]; exact h.s1, by rw [env_set (by omega)]; exact h.s2⟩
/-- what may stand in what is known -/
def InK (U : List κ) (K : List (List κ)) : Prop := ∀ k ∈ K, k.Nodup ∧ ∀ x ∈ k, x ∈ U
theorem InK.get {U : List κ} {K : List (List κ)} (h : InK U K) (i : Nat) : (K.getD i []).Nodup ∧ ∀ x ∈ K.getD i [], x ∈ U := by
  rw [List.getD_eq_getElem?_getD]
  cases hk : K[i]? with
  | none => exact ⟨List.nodup_nil, fun x hx => by cases hx⟩
  | some k => exact h k (List.mem_of_getElem? hk)
theorem mem_foldl_ins' {x : κ} : ∀ (r ks : List κ), x ∈ r.foldl ins ks ↔ x ∈ ks ∨ x ∈ r
  | [], ks => by simp
  | a :: r, ks => by rw [List.foldl_cons, mem_foldl_ins' r, mem_ins, List.mem_cons, or_assoc]
theorem foldl_ins_nodup : ∀ (r : List κ) {ks : List κ}, ks.Nodup → (r.foldl ins ks).Nodup
  | [], _, h => h
  | a :: r, ks, h => foldl_ins_nodup r (ins_nodup h)
theorem foldl_ins_ge : ∀ (r ks : List κ), ks.length ≤ (r.foldl ins ks).length
  | [], ks => Nat.le_refl _
  | a :: r, ks => by
    refine Nat.le_trans ?_ (foldl_ins_ge r (ins ks a))
    unfold ins; split <;> simp
theorem foldl_ins_eq : ∀ (r ks : List κ), (r.foldl ins ks).length = ks.length → r.foldl ins ks = ks
  | [], ks, _ => rfl
  | a :: r, ks, h => by
    rw [List.foldl_cons] at h ⊢
    have h1 := foldl_ins_ge r (ins ks a)
    by_cases ha : a ∈ ks
    · have e1 : ins ks a = ks := if_pos ha
      rw [e1] at h ⊢
      exact foldl_ins_eq r ks h
    · have e1 : ins ks a = ks ++ [a] := if_neg ha
      rw [e1, List.length_append, List.length_singleton] at h1
      rw [e1] at h; omega
theorem putS_in {U : List κ} {F : Side → List (List κ) → List κ} {i : Nat} {K : List (List κ)} {s : Side} (h : InK U K) (hF : ∀ x ∈ F s K, x ∈ U) : InK U (putS F i K s) := by
  intro k hk
  rcases List.mem_or_eq_of_mem_set hk with hk | rfl
  · exact h k hk
  · have := h.get i
    refine ⟨foldl_ins_nodup _ this.1, fun x hx => ?_⟩
    rcases (mem_foldl_ins' _ _).mp hx with hx | hx
    · exact this.2 x hx
    · exact hF x hx
theorem numbered_get {α : Type} : ∀ (l : List α) (i : Nat) (p : Nat × α), p ∈ numbered i l → i ≤ p.1 ∧ l[p.1 - i]? = some p.2
  | [], _, _, h => by cases h
  | x :: l, i, p, h => by
    rcases List.mem_cons.mp h with rfl | h
    · simp
    · obtain ⟨h1, h2⟩ := numbered_get l (i + 1) p h
      refine ⟨by omega, ?_⟩
      rw [show p.1 - i = (p.1 - (i + 1)) + 1 by omega, List.getElem?_cons_succ]; exact h2
theorem enumD_num {α : Type} (f : α → D) : ∀ (l : List α) (i : Nat), enumD i (l.map f) = (numbered i l).map fun p => D.tup [.int (p.1 : Nat), f p.2]
  | [], _ => rfl
  | x :: l, i => by rw [List.map_cons, enumD, numbered, List.map_cons, enumD_num f l]
/-- the total is a sum -/
theorem total_le {U : List κ} {K : List (List κ)} (h : InK U K) : total K ≤ K.length * U.length := by
  unfold total
  induction K with
  | nil => simp
  | cons k K ih =>
    have h1 := h k List.mem_cons_self
    have := nodup_le h1.1 h1.2
    have := ih fun q hq => h q (List.mem_cons_of_mem _ hq)
    rw [List.map_cons, List.sum_cons, List.length_cons, Nat.add_mul]; omega
theorem total_set : ∀ (K : List (List κ)) (i : Nat) (k' : List κ), i < K.length → total (K.set i k') + (K.getD i []).length = total K + k'.length
  | [], i, _, h => by simp at h
  | k :: K, 0, k', _ => by simp [total]; omega
  | k :: K, i + 1, k', h => by
    have := total_set K i k' (by simpa using h)
    unfold total at this ⊢
    rw [List.set_cons_succ, List.map_cons, List.sum_cons, List.map_cons, List.sum_cons, List.getD_cons_succ]
    omega
theorem putS_total (F : Side → List (List κ) → List κ) (i : Nat) (K : List (List κ)) (s : Side) : total K ≤ total (putS F i K s) ∧ (total (putS F i K s) = total K → putS F i K s = K) := by
  unfold putS
  by_cases hi : i < K.length
  · have h1 := total_set K i ((F s K).foldl ins (K.getD i [])) hi
    have h2 := foldl_ins_ge (F s K) (K.getD i [])
    refine ⟨by omega, fun h => ?_⟩
    rw [foldl_ins_eq (F s K) (K.getD i []) (by omega)]
    rw [List.getD_eq_getElem?_getD, List.getElem?_eq_getElem hi]
    exact List.set_getElem_self ..
  · rw [List.set_eq_of_length_le (by omega)]
    exact ⟨Nat.le_refl _, fun _ => rfl⟩
theorem putS_len (F : Side → List (List κ) → List κ) (i : Nat) (K : List (List κ)) (s : Side) : (putS F i K s).length = K.length := by unfold putS; rw [List.length_set]
/-- a fold whose steps only grow: that it stays means that each step stays -/
theorem fold_total {α : Type} {f : List (List κ) → α → List (List κ)} (hf : ∀ K a, total K ≤ total (f K a) ∧ (total (f K a) = total K → f K a = K)) : ∀ (l : List α) (K : List (List κ)), total K ≤ total (l.foldl f K) ∧ (total (l.foldl f K) = total K → l.foldl f K = K ∧ ∀ a ∈ l, f K a = K)
  | [], K => ⟨Nat.le_refl _, fun _ => ⟨rfl, by simp⟩⟩
  | a :: l, K => by
    obtain ⟨h1, h2⟩ := hf K a
    obtain ⟨h3, h4⟩ := fold_total hf l (f K a)
    rw [List.foldl_cons]
    refine ⟨by omega, fun h => ?_⟩
    have e1 := h2 (by omega)
    rw [e1] at h3 h4 h ⊢
    obtain ⟨e2, e3⟩ := h4 h
    refine ⟨e2, fun b hb => ?_⟩
    rcases List.mem_cons.mp hb with rfl | hb
    · exact e1
    · exact e3 b hb
theorem putR_total (F : Side → List (List κ) → List κ) (K : List (List κ)) (p : Nat × Row) : total K ≤ total (putR F K p) ∧ (total (putR F K p) = total K → putR F K p = K) := by
  obtain ⟨h1, h2⟩ := fold_total (f := putS F p.1) (putS_total F p.1) p.2 K
  exact ⟨h1, fun h => (h2 h).1⟩
theorem putR_fix {F : Side → List (List κ) → List κ} {K : List (List κ)} {p : Nat × Row} (h : putR F K p = K) : ∀ s ∈ p.2, putS F p.1 K s = K := (fold_total (putS_total F p.1) p.2 K).2 (by show total (putR F K p) = _; rw [h]) |>.2
theorem round_fix {F : Side → List (List κ) → List κ} {g : Gram} {K : List (List κ)} (h : total (roundR F g K) = total K) : ∀ p ∈ numbered 0 g, ∀ s ∈ p.2, putS F p.1 K s = K := fun p hp => putR_fix (((fold_total (putR_total F) (numbered 0 g) K).2 h).2 p hp)
theorem round_ge (F : Side → List (List κ) → List κ) (g : Gram) (K : List (List κ)) : total K ≤ total (roundR F g K) := (fold_total (putR_total F) (numbered 0 g) K).1
/-- what the rounds keep -/
theorem fold_keep {α : Type} {f : List (List κ) → α → List (List κ)} {P : List (List κ) → Prop} : ∀ (l : List α) (K : List (List κ)), (∀ a ∈ l, ∀ K, P K → P (f K a)) → P K → P (l.foldl f K)
  | [], _, _, h => h
  | a :: l, K, hf, h => fold_keep l _ (fun b hb => hf b (List.mem_cons_of_mem _ hb)) (hf a List.mem_cons_self K h)
theorem round_keep {F : Side → List (List κ) → List κ} {g : Gram} {P : List (List κ) → Prop} (hP : ∀ (i : Nat) (row : Row) (s : Side) (K : List (List κ)), g[i]? = some row → s ∈ row → P K → P (putS F i K s)) {K : List (List κ)} (h : P K) : P (roundR F g K) :=
  fold_keep _ K (fun p hp K hK => fold_keep _ K (fun s hs K hK => hP p.1 p.2 s K (by have := (numbered_get g 0 p hp).2; rwa [Nat.sub_zero] at this) hs hK) hK) h
theorem rounds_keep {F : Side → List (List κ) → List κ} {g : Gram} {P : List (List κ) → Prop} (hP : ∀ (i : Nat) (row : Row) (s : Side) (K : List (List κ)), g[i]? = some row → s ∈ row → P K → P (putS F i K s)) {n : Int} {K R : List (List κ)} (H : Rounds F g n K R) : P K → P R := by
  induction H with
  | stop _ => exact id
  | go _ _ ih => exact fun h => ih (round_keep hP h)
/-- at the end nothing comes any more -/
theorem rounds_end {F : Side → List (List κ) → List κ} {g : Gram} {n : Int} {K R : List (List κ)} (H : Rounds F g n K R) : (n = total K → total (roundR F g K) = total K) → ∀ p ∈ numbered 0 g, ∀ s ∈ p.2, putS F p.1 R s = R := by
  induction H with
  | stop h => exact fun h2 => round_fix (h2 h)
  | @go n K R h k ih =>
    refine fun _ => ih fun h2 => ?_
    have h2 : total K = total (roundR F g K) := by omega
    have e1 := ((fold_total (putR_total F) (numbered 0 g) K).2 h2.symm).1
    have e2 : roundR F g K = K := e1
    rw [e2, e2]
theorem rounds_exist {F : Side → List (List κ) → List κ} {g : Gram} {P : List (List κ) → Prop} {B : Nat} (hP : ∀ (i : Nat) (row : Row) (s : Side) (K : List (List κ)), g[i]? = some row → s ∈ row → P K → P (putS F i K s)) (hB : ∀ K, P K → total K ≤ B) :
    ∀ (f : Nat) (n : Int) (K : List (List κ)), P K → n ≤ total K → (B - total K) < f → ∃ R, Rounds F g n K R
  | 0, _, _, _, _, h => absurd h (Nat.not_lt_zero _)
  | f + 1, n, K, hK, hn, hf => by
    by_cases h : n = total K
    · exact ⟨K, .stop h⟩
    · have hK' := round_keep hP hK
      have h1 := round_ge F g K
      have h2 := hB _ hK'
      by_cases h3 : total (roundR F g K) = total K
      · exact ⟨_, .go h (.stop (by omega))⟩
      · obtain ⟨R, hR⟩ := rounds_exist hP hB f (total K) (roundR F g K) hK' (by omega) (by omega)
        exact ⟨R, .go h hR⟩
end
end Ev
end L2

namespace L2
namespace Ev
open PyProof.Rows PySem.Spec PySem L2
variable [Tb]
open Enc (e)
/-! ### the rounds as they run -/
def sumE (c : Nat) : ME := eFn fSum (aCons (eLc false [c] (iSeq (eV 2)) (gN c) tTrue (eFn fLenA (aCons (eV c) aNil))) aNil)
def rowLp (body : MS) : MS := sFor (iSeq (eV 3)) (gN 6) body
def rndLp (c : Nat) (body : MS) : MS := sSeq (sAsg (sumE c) (gN 4)) (sFor (iEnumD (aCons (eV 0) aNil)) (gTupD 2 (gConsD (gN 5) (gConsD (gN 3) gNilD))) (rowLp body))
def rndTest (c : Nat) : MT := tOf (eBin (opEq true) (eV 4) (sumE c))
def Fram (rs : List Nat) (S S' : Store) : Prop := S'.length = S.length ∧ ∀ n, n ∉ rs → S'[n]? = S[n]?
theorem Fram.refl {rs : List Nat} {S : Store} : Fram rs S S := ⟨rfl, fun _ _ => rfl⟩
theorem Fram.trans {rs : List Nat} {S S1 S2 : Store} (a : Fram rs S S1) (b : Fram rs S1 S2) : Fram rs S S2 := ⟨b.1.trans a.1, fun n hn => (b.2 n hn).trans (a.2 n hn)⟩
theorem Fram.set {rs : List Nat} {S : Store} {i r : Nat} {c : Cell} (h : rs[i]? = some r) : Fram rs S (S.set r c) := ⟨List.length_set .., fun n hn => List.getElem?_set_ne fun z => hn (by rw [← z]; exact List.mem_of_getElem? h)⟩
section
variable {κ : Type} [EncK κ] [DecidableEq κ] {N : Nat} {g : Gram} {m : Int} {rs : List Nat} {F : Side → List (List κ) → List κ} {U : List κ} {c : Nat} {body : MS}
theorem sum_lens (K : List (List κ)) : ((K.map fun k => (k.length : Int))).sum = (total K : Int) := by
  unfold total
  induction K with
  | nil => rfl
  | cons k K ih => rw [List.map_cons, List.sum_cons, ih, List.map_cons, List.sum_cons]; omega
theorem sumE_ok {ρ : EnvD} {S : Store} {K : List (List κ)} (hE : EnvR N g m rs ρ) (hK : KnAt S rs K) (hc : 3 ≤ c) (hcN : c < N) (hl : rs.length ≤ 1000) : sumE c ρ S = some (.int (total K), S) := by
  have hcomp : compL gYes [c] (gN c) tTrue (eFn fLenA (aCons (eV c) aNil)) (rs.map D.ref) ρ S [] = some ((K.map fun k => (k.length : Int)).map D.int, S) := by
    rw [compL_map rfl (fun d => match fLenA [d] S with | some (x, _) => x | none => .non)]
    · congr 2
      apply List.ext_getElem?
      intro j
      rw [List.getElem?_map, List.getElem?_map, List.getElem?_map, List.getElem?_map]
      cases hr : rs[j]? with
      | none =>
        have : K[j]? = none := List.getElem?_eq_none (by rw [← hK.len]; exact List.getElem?_eq_none_iff.mp hr)
        rw [this]; rfl
      | some r =>
        have hj : j < K.length := by rw [← hK.len]; exact (List.getElem?_eq_some_iff.mp hr).1
        have hk := hK.is j r _ hr (List.getElem?_eq_getElem hj)
        rw [List.getElem?_eq_getElem hj]
        simp only [Option.map_some, fLenA_dct hk]
        simp [stD]
    · intro d hd
      obtain ⟨r, hr, rfl⟩ := List.mem_map.mp hd
      obtain ⟨j, hj⟩ := List.mem_iff_getElem?.mp hr
      have hjK : j < K.length := by rw [← hK.len]; exact (List.getElem?_eq_some_iff.mp hj).1
      have hk := hK.is j r _ hj (List.getElem?_eq_getElem hjK)
      refine ⟨(ρ.set c none).set c (some (.ref r)), rfl, ?_⟩
      have h1 : eV c ((ρ.set c none).set c (some (.ref r))) S = some (.ref r, S) := eV_at (env_self (by rw [List.length_set, hE.len]; exact hcN))
      rw [eFn_r, aCons_r, h1]
      simp [fLenA_dct hk]
    · rw [List.length_map, sizeLine_eq]; omega
  unfold sumE
  have h2 := eV_at (S := S) hE.s2
  have hnl : newL false ((K.map fun k => (k.length : Int)).map D.int) S = some (.lst ((K.map fun k => (k.length : Int)).map D.int), S) := newL_f (by rw [List.length_map, List.length_map, ← hK.len, sizeLine_eq]; omega)
  have hs : fSum [.lst ((K.map fun k => (k.length : Int)).map D.int)] S = some (.int (total K), S) := by
    simp only [fSum, readOf, listOf, intsOf_map, Option.bind_some, Option.map_some, sum_lens]
  generalize ((K.map fun k => (k.length : Int)).map D.int) = L at *
  simp [h2, hcomp, hnl, hs]
/-- what is asked of the statement run for each side -/
def SideOk (N : Nat) (g : Gram) (m : Int) (rs : List Nat) (F : Side → List (List κ) → List κ) (U : List κ) (body : MS) : Prop := ∀ (ρ : EnvD) (S : Store) (K : List (List κ)) (i r : Nat) (row : Row) (s : Side), EnvR N g m rs ρ → ρ[5]? = some (some (.int (i : Nat))) → ρ[6]? = some (some (sideD s)) → KnAt S rs K → InK U K →
  rs[i]? = some r → g[i]? = some row → s ∈ row → ∃ ρ', body ρ S = some (.nx ρ' (S.set r (.dct (stD ((F s K).foldl ins (K.getD i [])))))) ∧ EnvR N g m rs ρ' ∧ ρ'[4]? = ρ[4]? ∧ ρ'[5]? = ρ[5]?
theorem row_run (H : SideOk N g m rs F U body) (hN : 7 ≤ N) (hF : ∀ (i : Nat) (row : Row) (s : Side) (K : List (List κ)), g[i]? = some row → s ∈ row → InK U K → ∀ x ∈ F s K, x ∈ U) {i r : Nat} {row : Row} (hr : rs[i]? = some r) (hg : g[i]? = some row) {ρ : EnvD} {S : Store} {K : List (List κ)}
    (hE : EnvR N g m rs ρ) (h3 : ρ[3]? = some (some (rowD row))) (h5 : ρ[5]? = some (some (.int (i : Nat)))) (hK : KnAt S rs K) (hU : InK U K) :
    ∃ ρ' S', rowLp body ρ S = some (.nx ρ' S') ∧ EnvR N g m rs ρ' ∧ ρ'[4]? = ρ[4]? ∧ KnAt S' rs (putR F K (i, row)) ∧ InK U (putR F K (i, row)) ∧ Fram rs S S' := by
  obtain ⟨ρ', S', e1, ⟨a1, a2, a3, a4, a5, a6⟩, _⟩ := forL_fold (g := gYes) (tg := gN 6) (body := body) sideD (putS F i)
    (fun as K1 ρ1 S1 => (EnvR N g m rs ρ1 ∧ ρ1[4]? = ρ[4]? ∧ ρ1[5]? = some (some (.int (i : Nat))) ∧ KnAt S1 rs K1 ∧ InK U K1 ∧ Fram rs S S1) ∧ ∀ s ∈ as, s ∈ row) (by
      rintro s as K1 ρ1 S1 ⟨⟨b1, b2, b3, b4, b5, b6⟩, hs⟩
      refine ⟨rfl, ρ1.set 6 (some (sideD s)), rfl, ?_⟩
      obtain ⟨ρ2, e2, c1, c2, c3⟩ := H (ρ1.set 6 (some (sideD s))) S1 K1 i r row s (b1.set 6 _) (by rw [env_set (by decide)]; exact b3) (env_self (by rw [b1.len]; omega)) b4 b5 hr hg (hs s List.mem_cons_self)
      rw [e2]
      refine ⟨⟨c1, by rw [c2, env_set (by decide)]; exact b2, by rw [c3, env_set (by decide)]; exact b3, b4.set hr, putS_in b5 (hF i row s K1 hg (hs s List.mem_cons_self) b5), b6.trans (Fram.set hr)⟩, fun t ht => hs t (List.mem_cons_of_mem _ ht)⟩) (fun _ _ _ _ => rfl)
    row K ρ S ⟨⟨hE, rfl, h5, hK, hU, Fram.refl⟩, fun s hs => hs⟩
  refine ⟨ρ', S', ?_, a1, a2, a4, a5, a6⟩
  have hv := eV_at (S := S) h3
  unfold rowLp
  have : rowD row = .tup (row.map sideD) := rfl
  rw [this] at hv
  simp [hv, e1]
theorem rnd_run (H : SideOk N g m rs F U body) (hN : 7 ≤ N) (hF : ∀ (i : Nat) (row : Row) (s : Side) (K : List (List κ)), g[i]? = some row → s ∈ row → InK U K → ∀ x ∈ F s K, x ∈ U) (hc : 3 ≤ c) (hcN : c < N) (hlen : rs.length = g.length) (hl : g.length ≤ 1000) {ρ : EnvD} {S : Store} {K : List (List κ)}
    (hE : EnvR N g m rs ρ) (hK : KnAt S rs K) (hU : InK U K) :
    ∃ ρ' S', rndLp c body ρ S = some (.nx ρ' S') ∧ EnvR N g m rs ρ' ∧ ρ'[4]? = some (some (.int (total K))) ∧ KnAt S' rs (roundR F g K) ∧ InK U (roundR F g K) ∧ Fram rs S S' := by
  have hs := sumE_ok hE hK hc hcN (by omega)
  have hE1 : EnvR N g m rs (ρ.set 4 (some (.int (total K)))) := hE.set 4 _
  obtain ⟨ρ', S', e1, ⟨a1, a2, a4, a5, a6⟩, _⟩ := forL_fold (g := gYes) (tg := gTupD 2 (gConsD (gN 5) (gConsD (gN 3) gNilD))) (body := rowLp body) (fun p : Nat × Row => D.tup [.int (p.1 : Nat), rowD p.2]) (putR F)
    (fun as K1 ρ1 S1 => (EnvR N g m rs ρ1 ∧ ρ1[4]? = some (some (.int (total K))) ∧ KnAt S1 rs K1 ∧ InK U K1 ∧ Fram rs S S1) ∧ ∀ p ∈ as, p ∈ numbered 0 g) (by
      rintro ⟨i, row⟩ as K1 ρ1 S1 ⟨⟨b1, b2, b4, b5, b6⟩, hp⟩
      have hg := (numbered_get g 0 (i, row) (hp _ List.mem_cons_self)).2
      rw [Nat.sub_zero] at hg
      dsimp only at hg
      have hi : i < rs.length := by rw [hlen]; exact (List.getElem?_eq_some_iff.mp hg).1
      refine ⟨rfl, (ρ1.set 5 (some (.int (i : Nat)))).set 3 (some (rowD row)), rfl, ?_⟩
      obtain ⟨ρ2, S2, e2, c1, c2, c3, c4, c5⟩ := row_run H hN hF (List.getElem?_eq_getElem hi) hg (ρ := (ρ1.set 5 (some (.int (i : Nat)))).set 3 (some (rowD row))) ((b1.set 5 _).set 3 _) (env_self (by rw [List.length_set, b1.len]; omega))
        (by rw [env_set (by decide)]; exact env_self (by rw [b1.len]; omega)) b4 b5
      rw [e2]
      exact ⟨⟨c1, by rw [c2, env_set (by decide), env_set (by decide)]; exact b2, c3, c4, b6.trans c5⟩, fun q hq => hp q (List.mem_cons_of_mem _ hq)⟩) (fun _ _ _ _ => rfl)
    (numbered 0 g) K (ρ.set 4 (some (.int (total K)))) S ⟨⟨hE1, env_self (by rw [hE.len]; omega), hK, hU, Fram.refl⟩, fun p hp => hp⟩
  refine ⟨ρ', S', ?_, a1, a2, a4, a5, a6⟩
  have hv := eV_at (S := S) hE1.s0
  have hgd : gramD g = .tup (g.map rowD) := rfl
  rw [hgd] at hv
  unfold rndLp
  rw [← enumD_num] at e1
  simp [hs, hv, gN, e1]
theorem rounds_run (H : SideOk N g m rs F U body) (hN : 7 ≤ N) (hF : ∀ (i : Nat) (row : Row) (s : Side) (K : List (List κ)), g[i]? = some row → s ∈ row → InK U K → ∀ x ∈ F s K, x ∈ U) (hc : 3 ≤ c) (hcN : c < N) (hlen : rs.length = g.length) (hl : g.length ≤ 1000) {n : Int} {K R : List (List κ)} (hR : Rounds F g n K R) :
    ∀ {ρ : EnvD} {S : Store}, EnvR N g m rs ρ → ρ[4]? = some (some (.int n)) → KnAt S rs K → InK U K → ∃ ρ' S', sWhile (rndTest c) (rndLp c body) ρ S = some (.nx ρ' S') ∧ EnvR N g m rs ρ' ∧ KnAt S' rs R ∧ Fram rs S S' := by
  have test : ∀ {n : Int} {K : List (List κ)} {ρ : EnvD} {S : Store}, EnvR N g m rs ρ → ρ[4]? = some (some (.int n)) → KnAt S rs K → rndTest c ρ S = some (decide (n ≠ total K), S) := fun {n K ρ S} hE h4 hK => by
    have hs := sumE_ok hE hK hc hcN (by omega)
    have hv := eV_at (S := S) h4
    unfold rndTest
    simp [hv, hs]
  induction hR with
  | @stop n K h =>
    intro ρ S hE h4 hK hU
    refine ⟨ρ, S, ?_, hE, hK, Fram.refl⟩
    rw [sWhile_eq (test hE h4 hK), if_neg (by simp [h])]
  | @go n K R h k ih =>
    intro ρ S hE h4 hK hU
    obtain ⟨ρ1, S1, e1, b1, b2, b3, b4, b5⟩ := rnd_run H hN hF hc hcN hlen hl hE hK hU
    obtain ⟨ρ', S', e2, c1, c2, c3⟩ := ih b1 b2 b3 b4
    refine ⟨ρ', S', ?_, c1, c2, b5.trans c3⟩
    rw [sWhile_eq (test hE h4 hK), if_pos (by simp [h]), e1]
    simp only [Option.bind_some, again_nx]
    exact e2
/-- the dicts made at the start -/
theorem compL_new {ρ : EnvD} : ∀ (ds : List D) (S : Store) (acc : List D), acc.length + ds.length ≤ 1000 → compL gYes [3] (gN 3) tTrue eDnew ds ρ S acc = some (acc ++ (List.range' S.length ds.length).map D.ref, S ++ List.replicate ds.length (.dct []))
  | [], S, acc, _ => by simp [compL]
  | d :: ds, S, acc, h => by
    rw [List.length_cons] at h
    have := compL_new (ρ := ρ) ds (S ++ [.dct []]) (acc ++ [.ref S.length]) (by rw [List.length_append, List.length_singleton]; omega)
    simp only [compL, gYes_r, gN, Option.bind_some, tTrue, if_true, eDnew_r]
    rw [if_pos (by rw [sizeLine_eq]; omega), this]
    simp [List.range'_succ, List.replicate_succ]
theorem knAt_new {S : Store} {n : Nat} : KnAt (κ := κ) (S ++ List.replicate n (.dct [])) (List.range' S.length n) (List.replicate n []) := by
  refine ⟨by simp, List.nodup_range', fun i r k hr hk => ?_⟩
  have hi : i < n := by have := (List.getElem?_eq_some_iff.mp hr).1; simpa using this
  rw [List.getElem?_range' hi] at hr
  cases hr
  rw [List.getElem?_replicate, if_pos hi] at hk
  cases hk
  rw [List.getElem?_append_right (Nat.le_add_right _ _)]
  simp [stD, hi]
theorem total_new (n : Nat) : total (List.replicate n ([] : List κ)) = 0 := by
  unfold total; simp
theorem inK_new {n : Nat} : InK U (List.replicate n ([] : List κ)) := fun k hk => by
  rw [(List.mem_replicate.mp hk).2]; exact ⟨List.nodup_nil, by simp⟩
end
end Ev
end L2

namespace L2
namespace Ev
open PyProof.Rows PySem.Spec PySem L2
variable [Tb]
open Enc (e)
theorem seq_nx {f g : MS} {ρ ρ1 : EnvD} {S S1 : Store} (h : f ρ S = some (.nx ρ1 S1)) : sSeq f g ρ S = g ρ1 S1 := by simp [h]
/-! ### counts of a right side -/
def Part.isLet : Part → Bool
  | .nm _ => false
  | _ => true
def namesOf : Side → List Int
  | [] => []
  | .nm i :: s => i :: namesOf s
  | _ :: s => namesOf s
def lettersOf (s : Side) : P2 := (((s.filter fun p => decide (p = .a)).length : Nat), ((s.filter fun p => decide (p = .b)).length : Nat))
noncomputable def p_is_letter : List D → M D := pureP (fun p : Part => [partD p]) (fun _ => True) fun p => .bl p.isLet
noncomputable def p_names_in : List D → M D := pureP (fun s : Side => [sideD s]) (fun s => s.length ≤ 1000) fun s => .lst ((namesOf s).map .int)
noncomputable def p_letters_in : List D → M D := pureP (fun s : Side => [sideD s]) (fun s => s.length ≤ 1000) fun s => pairD (lettersOf s)
def addAll (f o : List P2) : List P2 := (f.flatMap fun a => o.map fun b => addP a b).foldl ins []
def sumsL (K : List (List P2)) : List Int → List P2 → List P2
  | [], f => f
  | i :: r, f => sumsL K r (addAll f (K.getD i.toNat []))
def FitS (K : List (List P2)) : List Int → List P2 → Prop
  | [], f => f.length ≤ 1000000
  | i :: r, f => f.length ≤ 1000000 ∧ (0 ≤ i ∧ i < K.length) ∧ FitS K r (addAll f (K.getD i.toNat []))
def sumsOf (m : Int) (s : Side) (K : List (List P2)) : List P2 := (sumsL K (namesOf s) [lettersOf s]).filter fun c => decide (maxP c ≤ m)
def okSums (s : Side) (K : List (List P2)) : Prop := s.length ≤ 1000 ∧ FitS K (namesOf s) [lettersOf s]
noncomputable def p_sums_of : List D → M D := fun ds S => open Classical in if h : ∃ x : Side × List Nat × List (List P2) × Int, ds = [sideD x.1, .lst (x.2.1.map .ref), .int x.2.2.2] ∧ KnAt S x.2.1 x.2.2.1 ∧ okSums x.1 x.2.2.1 then
  some (.lst ((sumsOf h.choose.2.2.2 h.choose.1 h.choose.2.2.1).map pairD), S) else none
noncomputable def b_is_letter : MS := (sRet (eIsi "str" (eV 0)))
noncomputable def g_is_letter : List D → M D := runDef 1 b_is_letter
noncomputable def b_names_in : MS := (sRet (eLc false [1] (iSeq (eV 0)) (gN 1) (tNotD (tOf (eCall 1 p_is_letter (aCons (eV 1) aNil)))) (eV 1)))
noncomputable def g_names_in : List D → M D := runDef 2 b_names_in
noncomputable def b_letters_in : MS := (sRet (eTup (aCons (eFn fLen (aCons (eLc false [1] (iSeq (eV 0)) (gN 1) (tOf (eBin (opEq false) (eV 1) (eC (.str "a")))) (eV 1)) aNil)) (aCons (eFn fLen (aCons (eLc false [1] (iSeq (eV 0)) (gN 1) (tOf (eBin (opEq false) (eV 1) (eC (.str "b")))) (eV 1)) aNil)) aNil))))
noncomputable def g_letters_in : List D → M D := runDef 2 b_letters_in
noncomputable def l1_sums_of : MS := (sPut (eV 5) (eCall 2 p_added (aCons (eV 6) (aCons (eV 7) aNil))) (eC (.bl true)))
noncomputable def l2_sums_of : MS := (sForK (eBin opSub2 (eV 1) (eV 4)) (gN 7) l1_sums_of)
noncomputable def l3_sums_of : MS := (sSeq (sAsg eDnew (gN 5)) (sSeq (sFor (iSeq (eV 3)) (gN 6) l2_sums_of) (sAsg (eFn (fListA false) (aCons (eV 5) aNil)) (gN 3))))
noncomputable def b_sums_of : MS := (sSeq (sAsg (eLst false (aCons (eCall 1 p_letters_in (aCons (eV 0) aNil)) aNil)) (gN 3)) (sSeq (sFor (iSeq (eCall 1 p_names_in (aCons (eV 0) aNil))) (gN 4) l3_sums_of) (sRet (eLc false [8] (iSeq (eV 3)) (gN 8) (tOf (eBin opLe (eFn fMax (aCons (eV 8) aNil)) (eV 2))) (eV 8)))))
noncomputable def g_sums_of : List D → M D := runDef 9 b_sums_of
theorem stD_inj {κ : Type} [EncK κ] {l m : List κ} (h : stD l = stD m) : l = m := map_inj (fun a b h => Enc.inj (Prod.mk.inj h).1) h
theorem knAt_uniq {κ : Type} [EncK κ] {S : Store} {rs : List Nat} {K K' : List (List κ)} (h : KnAt S rs K) (h' : KnAt S rs K') : K = K' := by
  apply List.ext_getElem?
  intro j
  by_cases hj : j < rs.length
  · have h1 : j < K.length := by rw [← h.len]; exact hj
    have h2 : j < K'.length := by rw [← h'.len]; exact hj
    have e1 := h.is j _ _ (List.getElem?_eq_getElem hj) (List.getElem?_eq_getElem h1)
    have e2 := h'.is j _ _ (List.getElem?_eq_getElem hj) (List.getElem?_eq_getElem h2)
    rw [e1] at e2
    rw [List.getElem?_eq_getElem h1, List.getElem?_eq_getElem h2]
    exact congrArg some (stD_inj (Cell.dct.inj (Option.some.inj e2)))
  · rw [List.getElem?_eq_none (by rw [← h.len]; omega), List.getElem?_eq_none (by rw [← h'.len]; omega)]
theorem sums_of_r {s : Side} {rs : List Nat} {K : List (List P2)} {m : Int} {S : Store} (hK : KnAt S rs K) (ho : okSums s K) : p_sums_of [sideD s, .lst (rs.map .ref), .int m] S = some (.lst ((sumsOf m s K).map pairD), S) := by
  unfold p_sums_of
  have hx : ∃ x : Side × List Nat × List (List P2) × Int, [sideD s, D.lst (rs.map .ref), D.int m] = [sideD x.1, .lst (x.2.1.map .ref), .int x.2.2.2] ∧ KnAt S x.2.1 x.2.2.1 ∧ okSums x.1 x.2.2.1 := ⟨(s, rs, K, m), rfl, hK, ho⟩
  rw [dif_pos hx]
  obtain ⟨h1, h2, h3⟩ := hx.choose_spec
  generalize hx.choose = x at h1 h2 h3
  obtain ⟨s', rs', K', m'⟩ := x
  simp only [List.cons.injEq, D.lst.injEq, D.int.injEq, and_true] at h1
  obtain ⟨e1, e2, e3⟩ := h1
  have e1 := sideD_inj _ _ e1
  have e2 := map_inj (fun a b h => D.ref.inj h) e2
  subst e1; subst e2; subst e3
  rw [knAt_uniq hK h2]
theorem r_is_letter : Refines g_is_letter p_is_letter := refines_pure (fun p h S => ⟨[], by
  show g_is_letter [partD p] S = _
  simp only [g_is_letter, runDef, b_is_letter]
  cases p <;> simp [partD, isiT, Part.isLet]⟩) fun _ _ n => rfl
theorem is_letter_r (p : Part) (S : Store) : p_is_letter [partD p] S = some (.bl p.isLet, S) := pureP_r (enc := fun p : Part => [partD p]) (fun a b e => partD_inj _ _ (by simpa using e)) True.intro S
theorem names_filter : ∀ s : Side, ((s.map partD).filter fun d => match d with | .int _ => true | _ => false) = (namesOf s).map D.int
  | [] => rfl
  | p :: s => by
    have := names_filter s
    cases p <;> simp [namesOf, partD, this]
theorem r_names_in : Refines g_names_in p_names_in := refines_pure (fun s h S => ⟨[], by
  show g_names_in [sideD s] S = some (.lst ((namesOf s).map .int), S ++ [])
  have hc : compL gYes [1] (gN 1) (tNotD (tOf (eCall 1 p_is_letter (aCons (eV 1) aNil)))) (eV 1) (s.map partD) [some (.tup (s.map partD)), none] S [] = some ((namesOf s).map D.int, S) := by
    rw [compL_pure rfl (fun d => match d with | .int _ => true | _ => false) id]
    · rw [List.nil_append, List.map_id, names_filter]
    · intro d hd
      obtain ⟨p, hp, rfl⟩ := List.mem_map.mp hd
      refine ⟨_, rfl, ?_, fun _ => rfl⟩
      have h1 := is_letter_r p S
      cases p <;> (simp only [partD, Part.isLet] at h1; simp [wipeD, partD, h1])
    · rw [List.length_nil, List.length_map, sizeLine_eq]; omega
  have hl : (namesOf s).length ≤ s.length := by
    clear h hc
    induction s with
    | nil => simp [namesOf]
    | cons p s ih => cases p <;> simp [namesOf] <;> omega
  have hnl : newL false ((namesOf s).map D.int) S = some (.lst ((namesOf s).map D.int), S) := newL_f (by rw [List.length_map, sizeLine_eq]; omega)
  have e0 : sideD s = .tup (s.map partD) := rfl
  simp only [g_names_in, runDef, b_names_in, e0]
  simp [hc, hnl]⟩) fun s h n => low_noB _ (by rw [D.noB]; exact noBs_map _ fun _ _ => rfl)
theorem names_in_r {s : Side} (h : s.length ≤ 1000) (S : Store) : p_names_in [sideD s] S = some (.lst ((namesOf s).map .int), S) := pureP_r (enc := fun s : Side => [sideD s]) (fun a b e => sideD_inj _ _ (by simpa using e)) h S
theorem r_letters_in : Refines g_letters_in p_letters_in := refines_pure (fun s h S => ⟨[], by
  show g_letters_in [sideD s] S = some (pairD (lettersOf s), S ++ [])
  have hc : ∀ q : Part, ∀ x : Str, partD q = .str x → compL gYes [1] (gN 1) (tOf (eBin (opEq false) (eV 1) (eC (.str x)))) (eV 1) (s.map partD) [some (.tup (s.map partD)), none] S [] = some ((s.filter fun p => decide (p = q)).map partD, S) := fun q x hq => by
    rw [compL_pure rfl (fun d => decide (d = partD q)) id]
    · rw [List.nil_append, List.map_id, List.filter_map]
      congr 2
      refine congrArg _ ?_
      refine List.filter_congr fun p _ => ?_
      simp only [Function.comp]
      by_cases h : p = q
      · simp [h]
      · have : ¬ partD p = partD q := fun z => h (partD_inj _ _ z)
        simp [h, this]
    · intro d hd
      obtain ⟨p, hp, rfl⟩ := List.mem_map.mp hd
      refine ⟨_, rfl, ?_, fun _ => rfl⟩
      have h1 : opEq false (partD p) (.str x) S = some (.bl (decide (partD p = partD q)), S) := by
        rw [← hq]
        have := opEq_e (α := Part) false p q (S := S)
        refine Eq.trans this ?_
        by_cases h : p = q
        · simp [h]
        · have : ¬ partD p = partD q := fun z => h (partD_inj _ _ z)
          simp [h, this]
      simp [wipeD, h1]
    · rw [List.length_nil, List.length_map, sizeLine_eq]; omega
  have hl : ∀ q : Part, (s.filter fun p => decide (p = q)).length ≤ s.length := fun q => List.length_filter_le _ _
  have hnl : ∀ q : Part, newL false ((s.filter fun p => decide (p = q)).map partD) S = some (.lst ((s.filter fun p => decide (p = q)).map partD), S) := fun q => newL_f (by have := hl q; rw [List.length_map, sizeLine_eq]; omega)
  have e0 : sideD s = .tup (s.map partD) := rfl
  simp only [g_letters_in, runDef, b_letters_in, e0]
  simp [hc .a "a" rfl, hc .b "b" rfl, hnl, lettersOf, pairD]⟩) fun s h n => low_noB _ (noB_pair _)
theorem letters_in_r {s : Side} (h : s.length ≤ 1000) (S : Store) : p_letters_in [sideD s] S = some (pairD (lettersOf s), S) := pureP_r (enc := fun s : Side => [sideD s]) (fun a b e => sideD_inj _ _ (by simpa using e)) h S
theorem foldl_ins_app {κ : Type} [EncK κ] [DecidableEq κ] (a b ks : List κ) : (a ++ b).foldl ins ks = b.foldl ins (a.foldl ins ks) := List.foldl_append
/-- the innermost loop: over the keys of what is known -/
theorem sums_in {x0 x1 x2 x3 x4 x7 x8 : Option D} {q : Nat} {a : P2} : ∀ (o acc : List P2) (x7 : Option D) (T : Store), T[q]? = some (.dct (stD acc)) → ((o.map (addP a)).foldl ins acc).length ≤ 1000000 →
    ∃ x7', forL gYes (gN 7) l1_sums_of (o.map pairD) [x0, x1, x2, x3, x4, some (.ref q), some (pairD a), x7, x8] T = some (.nx [x0, x1, x2, x3, x4, some (.ref q), some (pairD a), x7', x8] (T.set q (.dct (stD ((o.map (addP a)).foldl ins acc)))))
  | [], acc, x7, T, h, _ => ⟨x7, by rw [List.map_nil, List.map_nil, forL, if_pos (gYes_r (S := T)), List.foldl_nil, set_same h]⟩
  | b :: o, acc, x7, T, h, hl => by
    rw [List.map_cons, List.foldl_cons] at hl
    have h1 := foldl_ins_ge (o.map (addP a)) (ins acc (addP a b))
    have h2 : acc.length ≤ (ins acc (addP a b)).length := by unfold ins; split <;> simp
    have hput := stPut_st (α := P2) (S := T) (n := q) (l := acc) (addP a b) h (by omega)
    obtain ⟨x7', ih⟩ := sums_in (x0 := x0) (x1 := x1) (x2 := x2) (x3 := x3) (x4 := x4) (x7 := x7) (x8 := x8) o (ins acc (addP a b)) (some (pairD b)) (T.set q (.dct (stD (ins acc (addP a b))))) (set_get h) hl
    refine ⟨x7', ?_⟩
    rw [set_set'] at ih
    rw [List.map_cons, List.map_cons, List.foldl_cons, ← ih]
    have hput' : stPut (.ref q) (pairD (addP a b)) (.bl true) T = some (T.set q (.dct (stD (ins acc (addP a b))))) := hput
    simp only [forL, gYes_r, if_true, gN, Option.bind_some, l1_sums_of]
    simp [added_r, hput']
/-- over what was found so far -/
theorem sums_mid {x0 x2 x3 : Option D} {q r : Nat} {rs : List Nat} {i : Int} {K : List (List P2)} {o : List P2} (hi : 0 ≤ i) (hr : rs[i.toNat]? = some r) (hqr : q ≠ r) {x8 : Option D} : ∀ (f acc : List P2) (x6 x7 : Option D) (T : Store), T[q]? = some (.dct (stD acc)) → T[r]? = some (.dct (stD o)) → ((f.flatMap fun a => o.map fun b => addP a b).foldl ins acc).length ≤ 1000000 →
    ∃ x6' x7', forL gYes (gN 6) l2_sums_of (f.map pairD) [x0, some (.lst (rs.map .ref)), x2, x3, some (.int i), some (.ref q), x6, x7, x8] T = some (.nx [x0, some (.lst (rs.map .ref)), x2, x3, some (.int i), some (.ref q), x6', x7', x8] (T.set q (.dct (stD ((f.flatMap fun a => o.map fun b => addP a b).foldl ins acc)))))
  | [], acc, x6, x7, T, h, _, _ => ⟨x6, x7, by rw [List.map_nil, forL, if_pos (gYes_r (S := T)), List.flatMap_nil, List.foldl_nil, set_same h]⟩
  | a :: f, acc, x6, x7, T, h, ho, hl => by
    rw [List.flatMap_cons, foldl_ins_app] at hl
    have h1 := foldl_ins_ge (f.flatMap fun a => o.map fun b => addP a b) ((o.map fun b => addP a b).foldl ins acc)
    have hsub : ∀ S2 : Store, opSub2 (.lst (rs.map D.ref)) (.int i) S2 = some (.ref r, S2) := fun S2 => by rw [opSub2_lst, atI_pos hi (x := .ref r) (by rw [List.getElem?_map, hr]; rfl)]; rfl
    have hdead : (T.set r .dead)[q]? = some (.dct (stD acc)) := by rw [List.getElem?_set_ne (Ne.symm hqr)]; exact h
    obtain ⟨x7', e1⟩ := sums_in (x0 := x0) (x1 := some (.lst (rs.map .ref))) (x2 := x2) (x3 := x3) (x4 := some (.int i)) (x7 := x7) (x8 := x8) (a := a) o acc x7 (T.set r .dead) hdead (by show ((o.map fun b => addP a b).foldl ins acc).length ≤ _; omega)
    have hT1 : (T.set q (.dct (stD ((o.map fun b => addP a b).foldl ins acc))))[r]? = some (.dct (stD o)) := by rw [List.getElem?_set_ne hqr]; exact ho
    obtain ⟨x6', x7'', ih⟩ := sums_mid (x0 := x0) (x2 := x2) (x3 := x3) (K := K) hi hr hqr (x8 := x8) f ((o.map fun b => addP a b).foldl ins acc) (some (pairD a)) x7' (T.set q (.dct (stD ((o.map fun b => addP a b).foldl ins acc)))) (set_get h) hT1 hl
    refine ⟨x6', x7'', ?_⟩
    rw [set_set'] at ih
    rw [List.flatMap_cons, foldl_ins_app, ← ih, List.map_cons]
    have hk : (stD o).map (·.1) = o.map pairD := by unfold stD; rw [List.map_map]; rfl
    have body : l2_sums_of [x0, some (.lst (rs.map .ref)), x2, x3, some (.int i), some (.ref q), some (pairD a), x7, x8] T = some (.nx [x0, some (.lst (rs.map .ref)), x2, x3, some (.int i), some (.ref q), some (pairD a), x7', x8] (T.set q (.dct (stD ((o.map fun b => addP a b).foldl ins acc))))) := by
      unfold l2_sums_of
      rw [forK_dct (n := r) (kvs := stD o) (by simp [hsub]) ho (by simp [hsub]), hk, e1]
      simp only [Option.map_some, Res.fix]
      congr 2
      rw [List.set_comm _ _ hqr, List.set_set, ← List.set_comm _ _ hqr]
      rw [set_same hT1]
    simp only [forL, gYes_r, if_true, gN, Option.bind_some]
    show (l2_sums_of [x0, some (.lst (rs.map .ref)), x2, x3, some (.int i), some (.ref q), some (pairD a), x7, x8] T).bind _ = _
    rw [body]; rfl
/-- over the names -/
theorem sums_out {x0 x2 : Option D} {rs : List Nat} {K : List (List P2)} {S : Store} (hK : KnAt S rs K) {x8 : Option D} : ∀ (ns : List Int) (f : List P2) (x4 x5 x6 x7 : Option D) (J : Store), FitS K ns f →
    ∃ x4' x5' x6' x7' J', forL gYes (gN 4) l3_sums_of (ns.map .int) [x0, some (.lst (rs.map .ref)), x2, some (.lst (f.map pairD)), x4, x5, x6, x7, x8] (S ++ J) = some (.nx [x0, some (.lst (rs.map .ref)), x2, some (.lst ((sumsL K ns f).map pairD)), x4', x5', x6', x7', x8] (S ++ J'))
  | [], f, x4, x5, x6, x7, J, _ => ⟨x4, x5, x6, x7, J, rfl⟩
  | i :: ns, f, x4, x5, x6, x7, J, hf => by
    obtain ⟨hf1, hi, hf2⟩ := hf
    have hlen : (addAll f (K.getD i.toNat [])).length ≤ 1000000 := by
      cases ns with
      | nil => exact hf2
      | cons _ _ => exact hf2.1
    have hiK : i.toNat < K.length := by omega
    have hir : i.toNat < rs.length := by rw [hK.len]; exact hiK
    have hr : rs[i.toNat]? = some rs[i.toNat] := List.getElem?_eq_getElem hir
    generalize rs[i.toNat] = r at hr
    have ho := hK.is i.toNat r _ hr (List.getElem?_eq_getElem hiK)
    have hKg : K.getD i.toNat [] = K[i.toNat] := by rw [List.getD_eq_getElem?_getD, List.getElem?_eq_getElem hiK]; rfl
    have hrS : r < S.length := (List.getElem?_eq_some_iff.mp ho).1
    have hq : (S ++ J).length ≠ r := by rw [List.length_append]; omega
    have hat : ((S ++ J) ++ [Cell.dct (stD ([] : List P2))])[(S ++ J).length]? = some (.dct (stD ([] : List P2))) := at_len
    have hatr : ((S ++ J) ++ [Cell.dct (stD ([] : List P2))])[r]? = some (.dct (stD (K.getD i.toNat []))) := by
      rw [List.append_assoc, List.getElem?_append_left hrS, hKg]; exact ho
    obtain ⟨x6', x7', e1⟩ := sums_mid (x0 := x0) (x2 := x2) (x3 := some (.lst (f.map pairD))) (K := K) (o := K.getD i.toNat []) hi.1 hr hq (x8 := x8) f [] x6 x7 ((S ++ J) ++ [Cell.dct (stD ([] : List P2))]) hat hatr hlen
    rw [set_len] at e1
    have hS2 : ((S ++ J) ++ [Cell.dct (stD (addAll f (K.getD i.toNat [])))])[(S ++ J).length]? = some (.dct (stD (addAll f (K.getD i.toNat [])))) := at_len
    have hlist : fListA false [.ref (S ++ J).length] ((S ++ J) ++ [Cell.dct (stD (addAll f (K.getD i.toNat [])))]) = some (.lst ((addAll f (K.getD i.toNat [])).map pairD), (S ++ J) ++ [Cell.dct (stD (addAll f (K.getD i.toNat [])))]) := by
      rw [fListA_dct hS2]
      have hk : (stD (addAll f (K.getD i.toNat []))).map (·.1) = (addAll f (K.getD i.toNat [])).map pairD := by unfold stD; rw [List.map_map]; rfl
      rw [hk, newL_f (by rw [List.length_map]; exact size_le hlen)]
    obtain ⟨x4', x5', x6'', x7'', J', ih⟩ := sums_out (x0 := x0) (x2 := x2) hK (x8 := x8) ns (addAll f (K.getD i.toNat [])) (some (.int i)) (some (.ref (S ++ J).length)) x6' x7' (J ++ [Cell.dct (stD (addAll f (K.getD i.toNat [])))]) hf2
    refine ⟨x4', x5', x6'', x7'', J', ?_⟩
    show forL gYes (gN 4) l3_sums_of (.int i :: ns.map .int) _ _ = _
    rw [sumsL, ← ih]
    have body : l3_sums_of [x0, some (.lst (rs.map .ref)), x2, some (.lst (f.map pairD)), some (.int i), x5, x6, x7, x8] (S ++ J) = some (.nx [x0, some (.lst (rs.map .ref)), x2, some (.lst ((addAll f (K.getD i.toNat [])).map pairD)), some (.int i), some (.ref (S ++ J).length), x6', x7', x8] ((S ++ J) ++ [Cell.dct (stD (addAll f (K.getD i.toNat [])))])) := by
      unfold l3_sums_of
      refine (seq_nx (ρ1 := [x0, some (.lst (rs.map .ref)), x2, some (.lst (f.map pairD)), some (.int i), some (.ref (S ++ J).length), x6, x7, x8]) (S1 := (S ++ J) ++ [Cell.dct (stD ([] : List P2))]) rfl).trans ?_
      refine (seq_nx (ρ1 := [x0, some (.lst (rs.map .ref)), x2, some (.lst (f.map pairD)), some (.int i), some (.ref (S ++ J).length), x6', x7', x8]) (S1 := (S ++ J) ++ [Cell.dct (stD (addAll f (K.getD i.toNat [])))]) ?_).trans ?_
      · rw [sFor_r]
        simp only [iSeq_r, eV_s, eV_0, Option.bind_some, seqW_lst, gOf_lst]
        exact e1
      · generalize addAll f (K.getD i.toNat []) = z at hlist ⊢
        simp [hlist, -List.append_assoc, -List.length_append]
    rw [forL, if_pos (gYes_r (S := S ++ J))]
    show (l3_sums_of [x0, some (.lst (rs.map .ref)), x2, some (.lst (f.map pairD)), some (.int i), x5, x6, x7, x8] (S ++ J)).bind _ = _
    rw [body, List.append_assoc]
    rfl
theorem sumsL_fit {K : List (List P2)} : ∀ (ns : List Int) (f : List P2), FitS K ns f → (sumsL K ns f).length ≤ 1000000
  | [], f, h => h
  | i :: ns, f, h => sumsL_fit ns _ h.2.2
theorem r_sums_of : Refines g_sums_of p_sums_of := fun ds S d S1 h => by
  unfold p_sums_of at h
  split at h
  · rename_i hx
    obtain ⟨h1, h2, h3, h4⟩ := hx.choose_spec
    cases h
    generalize hx.choose = x at h1 h2 h3 h4
    obtain ⟨s, rs, K, m⟩ := x
    dsimp only at h1 h2 h3 h4
    subst h1
    have e0 := letters_in_r h3
    have e1 := names_in_r h3
    obtain ⟨x4', x5', x6', x7', J', e2⟩ := sums_out (x0 := some (sideD s)) (x2 := some (.int m)) h2 (x8 := none) (namesOf s) [lettersOf s] none none none none [] h4
    rw [List.append_nil] at e2
    have hfit := sumsL_fit _ _ h4
    have hc : compL gYes [8] (gN 8) (tOf (eBin opLe (eFn fMax (aCons (eV 8) aNil)) (eV 2))) (eV 8) ((sumsL K (namesOf s) [lettersOf s]).map pairD) [some (sideD s), some (.lst (rs.map .ref)), some (.int m), some (.lst ((sumsL K (namesOf s) [lettersOf s]).map pairD)), x4', x5', x6', x7', none] (S ++ J') [] = some ((sumsOf m s K).map pairD, S ++ J') := by
      rw [compL_pure rfl (fun d => match d with | .tup [.int a, .int b] => decide (maxP (a, b) ≤ m) | _ => false) id]
      · rw [List.nil_append, List.map_id, List.filter_map]; rfl
      · intro d hd
        obtain ⟨p, hp, rfl⟩ := List.mem_map.mp hd
        refine ⟨_, rfl, ?_, fun _ => rfl⟩
        simp [wipeD, fMax_pair]
        rfl
      · rw [List.length_nil, List.length_map, sizeLine_eq]; omega
    have hle : (sumsOf m s K).length ≤ 1000000 := Nat.le_trans (List.length_filter_le _ _) hfit
    have hnl : newL false ((sumsOf m s K).map pairD) (S ++ J') = some (.lst ((sumsOf m s K).map pairD), S ++ J') := newL_f (by rw [List.length_map]; exact size_le hle)
    refine .inr ⟨[], J', by simp, ?_, low_noB _ (by rw [D.noB]; exact noBs_map _ fun p _ => noB_pair p), by simp⟩
    have e2' : forL gYes (gN 4) l3_sums_of ((namesOf s).map .int) [some (sideD s), some (.lst (rs.map .ref)), some (.int m), some (.lst [pairD (lettersOf s)]), none, none, none, none, none] S = _ := e2
    show g_sums_of [sideD s, .lst (rs.map .ref), .int m] S = _
    simp only [g_sums_of, runDef, b_sums_of]
    simp [e0, e1, e2', hc, hnl]
  · cases h
end Ev
end L2

namespace L2
namespace Ev
open PyProof.Rows PySem.Spec PySem L2
variable [Tb]
open Enc (e)
/-! ### which counts a grammar has -/
inductive Der (g : Gram) : Side → P2 → Prop
  | nil : Der g [] (0, 0)
  | a {s : Side} {p : P2} (h : Der g s p) : Der g (.a :: s) (addP (1, 0) p)
  | b {s : Side} {p : P2} (h : Der g s p) : Der g (.b :: s) (addP (0, 1) p)
  | nm {i : Int} {row : Row} {s t : Side} {p q : P2} (hg : g[i.toNat]? = some row) (ht : t ∈ row) (h : Der g t p) (k : Der g s q) : Der g (.nm i :: s) (addP p q)
def cnt (g : Gram) (i : Nat) (p : P2) : Prop := ∃ row, g[i]? = some row ∧ ∃ t ∈ row, Der g t p
def nn (p : P2) : Prop := 0 ≤ p.1 ∧ 0 ≤ p.2
theorem nn_add {p q : P2} (a : nn p) (b : nn q) : nn (addP p q) := ⟨Int.add_nonneg a.1 b.1, Int.add_nonneg a.2 b.2⟩
theorem Der.nn {g : Gram} {s : Side} {p : P2} (h : Der g s p) : nn p := by
  induction h with
  | nil => exact ⟨Int.le_refl _, Int.le_refl _⟩
  | a _ ih => exact nn_add ⟨by decide, by decide⟩ ih
  | b _ ih => exact nn_add ⟨by decide, by decide⟩ ih
  | nm _ _ _ _ i1 i2 => exact nn_add i1 i2
theorem maxP_l {p q : P2} (h : nn q) : maxP p ≤ maxP (addP p q) := maxP_add h
theorem maxP_r {p q : P2} (h : nn p) : maxP q ≤ maxP (addP p q) := by rw [addP_comm]; exact maxP_add h
/-- sums by what is known -/
def Mk (K : List (List P2)) : Side → P2 → Prop
  | [], x => x = (0, 0)
  | .a :: s, x => ∃ q, Mk K s q ∧ x = addP (1, 0) q
  | .b :: s, x => ∃ q, Mk K s q ∧ x = addP (0, 1) q
  | .nm i :: s, x => ∃ p, p ∈ K.getD i.toNat [] ∧ ∃ q, Mk K s q ∧ x = addP p q
theorem mem_gridL {m : Int} {h : P2} : h ∈ gridL m ↔ nn h ∧ maxP h ≤ m := by
  refine ⟨fun H => ?_, fun H => mem_grid H.1.1 H.1.2 H.2⟩
  obtain ⟨a, ha, hb⟩ := List.mem_flatMap.mp H
  obtain ⟨b, hc, rfl⟩ := List.mem_map.mp hb
  have h1 := List.mem_range.mp ha
  have h2 := List.mem_range.mp hc
  refine ⟨⟨by dsimp only; omega, by dsimp only; omega⟩, ?_⟩
  unfold maxP
  dsimp only
  split <;> omega
theorem Mk.nn {m : Int} {K : List (List P2)} (hK : InK (gridL m) K) : ∀ {s : Side} {x : P2}, Mk K s x → nn x
  | [], x, h => by rw [show x = (0, 0) from h]; exact ⟨Int.le_refl _, Int.le_refl _⟩
  | .a :: s, x, ⟨q, h, e⟩ => e ▸ nn_add ⟨by decide, by decide⟩ (Mk.nn hK h)
  | .b :: s, x, ⟨q, h, e⟩ => e ▸ nn_add ⟨by decide, by decide⟩ (Mk.nn hK h)
  | .nm i :: s, x, ⟨p, hp, q, h, e⟩ => e ▸ nn_add (mem_gridL.mp ((hK.get i.toNat).2 p hp)).1 (Mk.nn hK h)
theorem Mk.der {g : Gram} {K : List (List P2)} (hK : ∀ i p, p ∈ K.getD i [] → cnt g i p) : ∀ {s : Side} {x : P2}, Mk K s x → Der g s x
  | [], x, h => by rw [show x = (0, 0) from h]; exact .nil
  | .a :: s, x, ⟨q, h, e⟩ => e ▸ .a (Mk.der hK h)
  | .b :: s, x, ⟨q, h, e⟩ => e ▸ .b (Mk.der hK h)
  | .nm i :: s, x, ⟨p, hp, q, h, e⟩ => by
    obtain ⟨row, hg, t, ht, hd⟩ := hK _ p hp
    exact e ▸ .nm hg ht hd (Mk.der hK h)
theorem mem_numbered {α : Type} : ∀ {l : List α} {i j : Nat} {x : α}, l[j]? = some x → (i + j, x) ∈ numbered i l
  | y :: l, i, 0, x, h => by cases h; exact List.mem_cons_self
  | y :: l, i, j + 1, x, h => by
    have := mem_numbered (i := i + 1) (l := l) (j := j) (x := x) h
    rw [show i + (j + 1) = i + 1 + j by omega]; exact List.mem_cons_of_mem _ this
/-- what the sides' sums must keep -/
def CF (g : Gram) (m : Int) (F : Side → List (List P2) → List P2) : Prop := ∀ (i : Nat) (row : Row) (s : Side) (K : List (List P2)), g[i]? = some row → s ∈ row → InK (gridL m) K → ∀ x, x ∈ F s K ↔ Mk K s x ∧ maxP x ≤ m
structure SK (g : Gram) (m : Int) (K : List (List P2)) : Prop where
  len : K.length = g.length
  ink : InK (gridL m) K
  snd : ∀ i p, p ∈ K.getD i [] → cnt g i p
theorem CF.grid {g : Gram} {m : Int} {F : Side → List (List P2) → List P2} (H : CF g m F) {i : Nat} {row : Row} {s : Side} {K : List (List P2)} (hg : g[i]? = some row) (hs : s ∈ row) (hK : InK (gridL m) K) : ∀ x ∈ F s K, x ∈ gridL m := fun x hx => by
  have := (H i row s K hg hs hK x).mp hx
  exact mem_gridL.mpr ⟨Mk.nn hK this.1, this.2⟩
theorem getD_set {K : List (List P2)} {i j : Nat} {z : List P2} (hi : i < K.length) : (K.set i z).getD j [] = if i = j then z else K.getD j [] := by
  rw [List.getD_eq_getElem?_getD, List.getD_eq_getElem?_getD]
  by_cases h : i = j
  · subst h; rw [List.getElem?_set_self hi, if_pos rfl]; rfl
  · rw [List.getElem?_set_ne h, if_neg h]
theorem SK.put {g : Gram} {m : Int} {F : Side → List (List P2) → List P2} (H : CF g m F) {i : Nat} {row : Row} {s : Side} {K : List (List P2)} (hg : g[i]? = some row) (hs : s ∈ row) (h : SK g m K) : SK g m (putS F i K s) := by
  refine ⟨by rw [putS_len]; exact h.len, putS_in h.ink (H.grid hg hs h.ink), fun j p hp => ?_⟩
  have hi : i < K.length := by rw [h.len]; exact (List.getElem?_eq_some_iff.mp hg).1
  unfold putS at hp
  rw [getD_set hi] at hp
  split at hp
  · rename_i hij
    subst hij
    rcases (mem_foldl_ins' _ _).mp hp with hp | hp
    · exact h.snd i p hp
    · exact ⟨row, hg, s, hs, Mk.der h.snd ((H i row s K hg hs h.ink p).mp hp).1⟩
  · exact h.snd j p hp
theorem SK.new {g : Gram} {m : Int} : SK g m (List.replicate g.length []) := by
  refine ⟨by simp, inK_new, fun i p hp => ?_⟩
  rw [List.getD_eq_getElem?_getD, List.getElem?_replicate] at hp
  split at hp <;> cases hp
theorem grid_sq (m : Int) : (gridL m).length = (m + 1).toNat * (m + 1).toNat := grid_len m
theorem cnt_exist {g : Gram} {m : Int} {F : Side → List (List P2) → List P2} (H : CF g m F) : ∃ R, Rounds F g (-1) (List.replicate g.length []) R :=
  rounds_exist (P := SK g m) (B := g.length * (gridL m).length) (fun _ _ _ _ hg hs h => h.put H hg hs) (fun K h => by have := total_le h.ink; rw [h.len] at this; exact this) _ _ _ SK.new (by omega) (Nat.lt_succ_self _)
theorem cnt_rounds {g : Gram} {m : Int} {F : Side → List (List P2) → List P2} (H : CF g m F) {R : List (List P2)} (hR : Rounds F g (-1) (List.replicate g.length []) R) : SK g m R ∧ ∀ i p, p ∈ R.getD i [] ↔ cnt g i p ∧ maxP p ≤ m := by
  have hS : SK g m R := rounds_keep (P := SK g m) (fun _ _ _ _ hg hs h => h.put H hg hs) hR SK.new
  have hE := rounds_end hR fun h => by omega
  have key : ∀ {i : Nat} {row : Row} {t : Side} {p : P2}, g[i]? = some row → t ∈ row → Mk R t p → maxP p ≤ m → p ∈ R.getD i [] := fun {i row t p} hg ht hm hp => by
    have h1 := mem_numbered (i := 0) hg
    rw [Nat.zero_add] at h1
    have h2 := hE _ h1 t ht
    have hi : i < R.length := by rw [hS.len]; exact (List.getElem?_eq_some_iff.mp hg).1
    have h3 := congrArg (fun K => K.getD i []) h2
    unfold putS at h3
    dsimp only at h3
    rw [getD_set hi, if_pos rfl] at h3
    rw [← h3]
    exact (mem_foldl_ins' _ _).mpr (.inr ((H i row t R hg ht hS.ink p).mpr ⟨hm, hp⟩))
  have comp : ∀ {s : Side} {p : P2}, Der g s p → maxP p ≤ m → Mk R s p := fun {s p} h => by
    induction h with
    | nil => exact fun _ => rfl
    | a h ih => exact fun hm => ⟨_, ih (Int.le_trans (maxP_r ⟨by decide, by decide⟩) hm), rfl⟩
    | b h ih => exact fun hm => ⟨_, ih (Int.le_trans (maxP_r ⟨by decide, by decide⟩) hm), rfl⟩
    | nm hg ht h k i1 i2 => exact fun hm => ⟨_, key hg ht (i1 (Int.le_trans (maxP_l k.nn) hm)) (Int.le_trans (maxP_l k.nn) hm), _, i2 (Int.le_trans (maxP_r h.nn) hm), rfl⟩
  refine ⟨hS, fun i p => ⟨fun hp => ⟨hS.snd i p hp, ?_⟩, ?_⟩⟩
  · exact (mem_gridL.mp ((hS.ink.get i).2 p hp)).2
  · rintro ⟨⟨row, hg, t, ht, hd⟩, hm⟩
    exact key hg ht (comp hd hm) hm
/-! ### the sums of sums_of -/
theorem mem_addAll {f o : List P2} {x : P2} : x ∈ addAll f o ↔ ∃ a, a ∈ f ∧ ∃ b, b ∈ o ∧ x = addP a b := by
  unfold addAll
  rw [mem_foldl_ins']
  simp only [List.not_mem_nil, false_or, List.mem_flatMap, List.mem_map]
  constructor
  · rintro ⟨a, ha, b, hb, rfl⟩; exact ⟨a, ha, b, hb, rfl⟩
  · rintro ⟨a, ha, b, hb, rfl⟩; exact ⟨a, ha, b, hb, rfl⟩
def MkN (K : List (List P2)) : List Int → P2 → Prop
  | [], x => x = (0, 0)
  | i :: r, x => ∃ p, p ∈ K.getD i.toNat [] ∧ ∃ q, MkN K r q ∧ x = addP p q
theorem mem_sumsL {K : List (List P2)} : ∀ {ns : List Int} {f : List P2} {x : P2}, x ∈ sumsL K ns f ↔ ∃ a, a ∈ f ∧ ∃ y, MkN K ns y ∧ x = addP a y
  | [], f, x => by
    constructor
    · exact fun h => ⟨x, h, (0, 0), rfl, (addP_zero x).symm⟩
    · rintro ⟨a, ha, y, hy, rfl⟩
      rw [show y = (0, 0) from hy, addP_zero]; exact ha
  | i :: ns, f, x => by
    rw [sumsL, mem_sumsL]
    constructor
    · rintro ⟨a, ha, y, hy, rfl⟩
      obtain ⟨b, hb, c, hc, rfl⟩ := mem_addAll.mp ha
      exact ⟨b, hb, addP c y, ⟨c, hc, y, hy, rfl⟩, addP_assoc _ _ _⟩
    · rintro ⟨a, ha, y, ⟨p, hp, q, hq, rfl⟩, rfl⟩
      exact ⟨addP a p, mem_addAll.mpr ⟨a, ha, p, hp, rfl⟩, q, hq, (addP_assoc _ _ _).symm⟩
theorem lettersOf_a (s : Side) : lettersOf (.a :: s) = addP (1, 0) (lettersOf s) := by
  unfold lettersOf addP; simp; omega
theorem lettersOf_b (s : Side) : lettersOf (.b :: s) = addP (0, 1) (lettersOf s) := by
  unfold lettersOf addP; simp; omega
theorem lettersOf_nm (i : Int) (s : Side) : lettersOf (.nm i :: s) = lettersOf s := by
  unfold lettersOf; simp
theorem Mk_iff {K : List (List P2)} : ∀ {s : Side} {x : P2}, Mk K s x ↔ ∃ y, MkN K (namesOf s) y ∧ x = addP (lettersOf s) y
  | [], x => by
    simp only [Mk, namesOf, MkN]
    constructor
    · rintro rfl; exact ⟨_, rfl, rfl⟩
    · rintro ⟨y, rfl, rfl⟩; rfl
  | .a :: s, x => by
    simp only [Mk, namesOf, lettersOf_a]
    constructor
    · rintro ⟨q, hq, rfl⟩
      obtain ⟨y, hy, rfl⟩ := Mk_iff.mp hq
      exact ⟨y, hy, (addP_assoc _ _ _).symm⟩
    · rintro ⟨y, hy, rfl⟩
      exact ⟨_, Mk_iff.mpr ⟨y, hy, rfl⟩, addP_assoc _ _ _⟩
  | .b :: s, x => by
    simp only [Mk, namesOf, lettersOf_b]
    constructor
    · rintro ⟨q, hq, rfl⟩
      obtain ⟨y, hy, rfl⟩ := Mk_iff.mp hq
      exact ⟨y, hy, (addP_assoc _ _ _).symm⟩
    · rintro ⟨y, hy, rfl⟩
      exact ⟨_, Mk_iff.mpr ⟨y, hy, rfl⟩, addP_assoc _ _ _⟩
  | .nm i :: s, x => by
    simp only [Mk, namesOf, lettersOf_nm, MkN]
    have sw : ∀ a b c : P2, addP a (addP b c) = addP b (addP a c) := fun a b c => by rw [← addP_assoc, addP_comm a b, addP_assoc]
    constructor
    · rintro ⟨p, hp, q, hq, rfl⟩
      obtain ⟨y, hy, rfl⟩ := Mk_iff.mp hq
      exact ⟨_, ⟨p, hp, y, hy, rfl⟩, sw _ _ _⟩
    · rintro ⟨_, ⟨p, hp, y, hy, rfl⟩, rfl⟩
      exact ⟨p, hp, _, Mk_iff.mpr ⟨y, hy, rfl⟩, sw _ _ _⟩
theorem cf_sums (g : Gram) (m : Int) : CF g m (sumsOf m) := fun i row s K _ _ _ x => by
  unfold sumsOf
  rw [List.mem_filter, mem_sumsL, Mk_iff, decide_eq_true_iff]
  simp
/-! ### the sums of the law -/
def lawSums (a o : List P2) (m : Int) : List P2 := (a.flatMap fun x => (o.map (addP x)).filter fun p => decide (maxP p ≤ m)).foldl ins []
def someOf (K : List (List P2)) : Part → List P2
  | .a => [(1, 0)]
  | .b => [(0, 1)]
  | .nm i => K.getD i.toNat []
def lawL (m : Int) (K : List (List P2)) (s : Side) (f : List P2) : List P2 := s.foldl (fun f p => lawSums f (someOf K p) m) f
def lawF (m : Int) (s : Side) (K : List (List P2)) : List P2 := lawL m K s [(0, 0)]
theorem mem_lawSums {f o : List P2} {m : Int} {x : P2} : x ∈ lawSums f o m ↔ (∃ a, a ∈ f ∧ ∃ b, b ∈ o ∧ x = addP a b) ∧ maxP x ≤ m := by
  unfold lawSums
  rw [mem_foldl_ins']
  simp only [List.not_mem_nil, false_or, List.mem_flatMap, List.mem_filter, List.mem_map, decide_eq_true_iff]
  constructor
  · rintro ⟨a, ha, ⟨b, hb, rfl⟩, hm⟩; exact ⟨⟨a, ha, b, hb, rfl⟩, hm⟩
  · rintro ⟨⟨a, ha, b, hb, rfl⟩, hm⟩; exact ⟨a, ha, ⟨b, hb, rfl⟩, hm⟩
theorem Mk_cons {K : List (List P2)} {p : Part} {s : Side} {x : P2} : Mk K (p :: s) x ↔ ∃ b, b ∈ someOf K p ∧ ∃ q, Mk K s q ∧ x = addP b q := by
  cases p <;> simp [Mk, someOf]
theorem some_nn {m : Int} {K : List (List P2)} (hK : InK (gridL m) K) (p : Part) : ∀ b ∈ someOf K p, nn b := by
  intro b hb
  cases p with
  | a => rw [List.mem_singleton.mp hb]; exact ⟨by decide, by decide⟩
  | b => rw [List.mem_singleton.mp hb]; exact ⟨by decide, by decide⟩
  | nm i => exact (mem_gridL.mp ((hK.get _).2 b hb)).1
theorem mem_lawL {m : Int} {K : List (List P2)} (hK : InK (gridL m) K) : ∀ {s : Side} {f : List P2} {x : P2}, (∀ a ∈ f, maxP a ≤ m) → (x ∈ lawL m K s f ↔ (∃ a, a ∈ f ∧ ∃ y, Mk K s y ∧ x = addP a y) ∧ maxP x ≤ m)
  | [], f, x, hf => by
    constructor
    · exact fun h => ⟨⟨x, h, (0, 0), rfl, (addP_zero x).symm⟩, hf x h⟩
    · rintro ⟨⟨a, ha, y, hy, rfl⟩, _⟩
      rw [show y = (0, 0) from hy, addP_zero]; exact ha
  | p :: s, f, x, hf => by
    show x ∈ lawL m K s (lawSums f (someOf K p) m) ↔ _
    rw [mem_lawL hK fun a ha => (mem_lawSums.mp ha).2]
    constructor
    · rintro ⟨⟨a, ha, y, hy, rfl⟩, hm⟩
      obtain ⟨⟨b, hb, c, hc, rfl⟩, _⟩ := mem_lawSums.mp ha
      exact ⟨⟨b, hb, addP c y, Mk_cons.mpr ⟨c, hc, y, hy, rfl⟩, addP_assoc _ _ _⟩, hm⟩
    · rintro ⟨⟨a, ha, y, hy, rfl⟩, hm⟩
      obtain ⟨b, hb, q, hq, rfl⟩ := Mk_cons.mp hy
      refine ⟨⟨addP a b, mem_lawSums.mpr ⟨⟨a, ha, b, hb, rfl⟩, ?_⟩, q, hq, (addP_assoc _ _ _).symm⟩, hm⟩
      rw [← addP_assoc] at hm
      exact Int.le_trans (maxP_l (Mk.nn hK hq)) hm
theorem zero_addP (a : P2) : addP (0, 0) a = a := by rw [addP_comm, addP_zero]
theorem cf_law (g : Gram) {m : Int} (h0 : 0 ≤ m) : CF g m (lawF m) := fun i row s K _ _ hK x => by
  unfold lawF
  rw [mem_lawL hK fun a ha => by rw [List.mem_singleton.mp ha]; exact h0]
  constructor
  · rintro ⟨⟨a, ha, y, hy, rfl⟩, hm⟩
    rw [List.mem_singleton.mp ha, zero_addP] at hm ⊢
    exact ⟨hy, hm⟩
  · rintro ⟨hy, hm⟩
    exact ⟨⟨_, List.mem_singleton.mpr rfl, x, hy, (zero_addP x).symm⟩, hm⟩
/-! ### sorted alike -/
theorem leP_trans (a b c : P2) : leP a b = true → leP b c = true → leP a c = true := by
  simp only [leP, decide_eq_true_iff]; omega
theorem leP_total (a b : P2) : (leP a b || leP b a) = true := by
  simp only [leP, Bool.or_eq_true, decide_eq_true_iff]; omega
theorem leP_anti {a b : P2} (h : leP a b = true) (k : leP b a = true) : a = b := by
  simp only [leP, decide_eq_true_iff] at h k
  exact Prod.ext (by omega) (by omega)
theorem sortP_perm {l l' : List P2} (h : l.Perm l') : sortP l = sortP l' := by
  unfold sortP
  refine List.Perm.eq_of_pairwise (le := fun a b => leP a b = true) (fun a b _ _ => leP_anti) (List.pairwise_mergeSort leP_trans leP_total l) (List.pairwise_mergeSort leP_trans leP_total l') ?_
  exact (List.mergeSort_perm l leP).trans (h.trans (List.mergeSort_perm l' leP).symm)
theorem sortP_ext {l l' : List P2} (hl : l.Nodup) (hl' : l'.Nodup) (h : ∀ x, x ∈ l ↔ x ∈ l') : sortP l = sortP l' := sortP_perm ((List.perm_ext_iff_of_nodup hl hl').mpr h)
end Ev
end L2

namespace L2
namespace Ev
open PyProof.Rows PySem.Spec PySem L2
variable [Tb]
open Enc (e)
/-- counts: 0 grammar, 1 most, 2 known, 3 row, 4 size, 5 name, 6 side, 7 count, 8 some -/
noncomputable def l1_counts : MS := (sPut (eBin opSub2 (eV 2) (eV 5)) (eV 7) (eC (.bl true)))
noncomputable def l2_counts : MS := (sFor (iSeq (eCall 3 p_sums_of (aCons (eV 6) (aCons (eV 2) (aCons (eV 1) aNil))))) (gN 7) l1_counts)
noncomputable def l3_counts : MS := (sFor (iSeq (eV 3)) (gN 6) l2_counts)
noncomputable def l4_counts : MS := (sSeq (sAsg (eFn fSum (aCons (eLc false [8] (iSeq (eV 2)) (gN 8) tTrue (eFn fLenA (aCons (eV 8) aNil))) aNil)) (gN 4)) (sFor (iEnumD (aCons (eV 0) aNil)) (gTupD 2 (gConsD (gN 5) (gConsD (gN 3) gNilD))) l3_counts))
noncomputable def b_counts : MS := (sSeq (sAsg (eLc false [3] (iSeq (eV 0)) (gN 3) tTrue eDnew) (gN 2)) (sSeq (sAsg (eUn opNeg (eC (.int 1))) (gN 4)) (sSeq (sWhile (tOf (eBin (opEq true) (eV 4) (eFn fSum (aCons (eLc false [8] (iSeq (eV 2)) (gN 8) tTrue (eFn fLenA (aCons (eV 8) aNil))) aNil)))) l4_counts) (sRet (eFn fTuple (aCons (eFn (fSorted false) (aCons (eBin opSub2 (eV 2) (eC (.int 0))) aNil)) aNil))))))
noncomputable def g_counts : List D → M D := runDef 9 b_counts
/-! ### counts, as it runs -/
theorem put_loop {κ : Type} [EncK κ] [DecidableEq κ] {N v : Nat} {g : Gram} {m : Int} {rs : List Nat} (hv : 7 ≤ v) (hvN : v < N) {i r : Nat} (hr : rs[i]? = some r) : ∀ (xs : List κ) {ρ : EnvD} {S : Store} {k : List κ}, EnvR N g m rs ρ → ρ[5]? = some (some (.int (i : Nat))) → S[r]? = some (.dct (stD k)) → (xs.foldl ins k).length ≤ 1000000 →
    ∃ ρ', forL gYes (gN v) (sPut (eBin opSub2 (eV 2) (eV 5)) (eV v) (eC (.bl true))) (xs.map e) ρ S = some (.nx ρ' (S.set r (.dct (stD (xs.foldl ins k))))) ∧ EnvR N g m rs ρ' ∧ ρ'[4]? = ρ[4]? ∧ ρ'[5]? = ρ[5]?
  | [], ρ, S, k, hE, _, hS, _ => ⟨ρ, by rw [List.map_nil, forL, if_pos (gYes_r (S := S)), List.foldl_nil, set_same hS], hE, rfl, rfl⟩
  | x :: xs, ρ, S, k, hE, h5, hS, hl => by
    rw [List.foldl_cons] at hl
    have h1 := foldl_ins_ge xs (ins k x)
    have h2 : k.length ≤ (ins k x).length := by unfold ins; split <;> simp
    have hput := stPut_st (α := κ) (S := S) (n := r) (l := k) x hS (by omega)
    have hE1 : EnvR N g m rs (ρ.set v (some (e x))) := hE.set v _ (by omega)
    have a5 : (ρ.set v (some (e x)))[5]? = some (some (.int (i : Nat))) := by rw [env_set (by omega)]; exact h5
    obtain ⟨ρ', e1, c1, c2, c3⟩ := put_loop hv hvN hr xs (ρ := ρ.set v (some (e x))) (S := S.set r (.dct (stD (ins k x)))) hE1 a5 (set_get hS) hl
    rw [set_set'] at e1
    refine ⟨ρ', ?_, c1, by rw [c2, env_set (by omega)], by rw [c3, env_set (by omega)]⟩
    have v2 := eV_at (S := S) hE1.s2
    have v5 := eV_at (S := S) a5
    have vv : eV v (ρ.set v (some (e x))) S = some (e x, S) := eV_at (env_self (by rw [hE.len]; exact hvN))
    have hsub : opSub2 (.lst (rs.map D.ref)) (.int (i : Nat)) S = some (.ref r, S) := by rw [opSub2_lst, atI_pos (by omega) (x := .ref r) (by rw [List.getElem?_map, show ((i : Nat) : Int).toNat = i by omega, hr]; rfl)]; rfl
    rw [List.foldl_cons, List.map_cons, ← e1]
    simp only [forL, gYes_r, if_true, gN, Option.bind_some]
    simp [v2, v5, vv, hsub, hput]
def okC (x : Gram × Int) : Prop := 1 ≤ x.1.length ∧ x.1.length ≤ 1000 ∧ (0 ≤ x.2 ∧ x.2 ≤ 30) ∧ ∀ row ∈ x.1, ∀ s ∈ row, s.length ≤ 20 ∧ ∀ i, Part.nm i ∈ s → 0 ≤ i ∧ i < x.1.length
theorem mem_namesOf {i : Int} : ∀ {s : Side}, i ∈ namesOf s ↔ Part.nm i ∈ s
  | [] => by simp [namesOf]
  | .a :: s => by simp [namesOf, mem_namesOf (s := s)]
  | .b :: s => by simp [namesOf, mem_namesOf (s := s)]
  | .nm j :: s => by simp [namesOf, mem_namesOf (s := s)]
theorem namesOf_len : ∀ s : Side, (namesOf s).length ≤ s.length
  | [] => Nat.le_refl _
  | .a :: s => by have := namesOf_len s; simp only [namesOf, List.length_cons]; omega
  | .b :: s => by have := namesOf_len s; simp only [namesOf, List.length_cons]; omega
  | .nm j :: s => by have := namesOf_len s; simp only [namesOf, List.length_cons]; omega
theorem fit {K : List (List P2)} {m : Int} (hm : 0 ≤ m) (hK : InK (gridL m) K) : ∀ (ns : List Int) (f : List P2) (c : Int), (∀ i ∈ ns, 0 ≤ i ∧ i < K.length) → f.Nodup → (∀ x ∈ f, x ∈ gridL c) → 0 ≤ c → c + m * ns.length ≤ 999 → FitS K ns f := by
  have lens : ∀ (f : List P2) (c : Int), f.Nodup → (∀ x ∈ f, x ∈ gridL c) → c ≤ 999 → f.length ≤ 1000000 := fun f c h1 h2 h3 => by
    have := nodup_le h1 h2
    rw [grid_sq] at this
    have a : (c + 1).toNat ≤ 1000 := by omega
    have := Nat.mul_le_mul a a
    omega
  intro ns
  induction ns with
  | nil =>
    intro f c _ h1 h2 h0 h3
    exact lens f c h1 h2 (by simpa using h3)
  | cons i ns ih =>
    intro f c hi h1 h2 h0 h3
    rw [List.length_cons, Int.natCast_succ, Int.mul_add, Int.mul_one] at h3
    have h4 : 0 ≤ m * (ns.length : Int) := Int.mul_nonneg hm (by omega)
    refine ⟨lens f c h1 h2 (by omega), hi i List.mem_cons_self, ih _ (c + m) (fun j hj => hi j (List.mem_cons_of_mem _ hj)) (foldl_ins_nodup _ List.nodup_nil) (fun x hx => ?_) (by omega) (by omega)⟩
    obtain ⟨a, ha, b, hb, rfl⟩ := mem_addAll.mp hx
    have p1 := mem_gridL.mp (h2 a ha)
    have p2 := mem_gridL.mp ((hK.get i.toNat).2 b hb)
    refine mem_gridL.mpr ⟨nn_add p1.1 p2.1, ?_⟩
    have q1 := maxP_le p1.2
    have q2 := maxP_le p2.2
    unfold maxP addP
    dsimp only
    split <;> omega
theorem lettersOf_grid (s : Side) : lettersOf s ∈ gridL s.length := by
  have h1 := List.length_filter_le (fun p => decide (p = Part.a)) s
  have h2 := List.length_filter_le (fun p => decide (p = Part.b)) s
  refine mem_gridL.mpr ⟨⟨by unfold lettersOf; dsimp only; omega, by unfold lettersOf; dsimp only; omega⟩, ?_⟩
  unfold maxP lettersOf
  dsimp only
  split <;> omega
theorem okSums_of {x : Gram × Int} (h : okC x) {row : Row} {s : Side} {K : List (List P2)} (hr : row ∈ x.1) (hs : s ∈ row) (hl : K.length = x.1.length) (hK : InK (gridL x.2) K) : okSums s K := by
  obtain ⟨_, _, ⟨h0, h30⟩, h4⟩ := h
  obtain ⟨h5, h6⟩ := h4 row hr s hs
  refine ⟨by omega, fit h0 hK _ _ s.length (fun i hi => ?_) (List.nodup_cons.mpr ⟨by simp, List.nodup_nil⟩) (fun y hy => by rw [List.mem_singleton.mp hy]; exact lettersOf_grid s) (by omega) ?_⟩
  · rw [hl]; exact h6 i (mem_namesOf.mp hi)
  · have a := namesOf_len s
    have b : x.2 * ((namesOf s).length : Int) ≤ 30 * 20 := Int.mul_le_mul h30 (by omega) (by omega) (by omega)
    omega
theorem fold_len {F : List P2} {k : List P2} {m : Int} (h30 : m ≤ 30) (hk : k.Nodup ∧ ∀ x ∈ k, x ∈ gridL m) (hF : ∀ x ∈ F, x ∈ gridL m) : (F.foldl ins k).length ≤ 961 := by
  have h1 : (F.foldl ins k).Nodup := foldl_ins_nodup _ hk.1
  have h2 : ∀ x ∈ F.foldl ins k, x ∈ gridL m := fun x hx => by
    rcases (mem_foldl_ins' _ _).mp hx with hx | hx
    · exact hk.2 x hx
    · exact hF x hx
  have := nodup_le h1 h2
  rw [grid_sq] at this
  have a : (m + 1).toNat ≤ 31 := by omega
  have := Nat.mul_le_mul a a
  omega
theorem side_counts {x : Gram × Int} (h : okC x) {rs : List Nat} (hl : rs.length = x.1.length) : SideOk 9 x.1 x.2 rs (sumsOf x.2) (gridL x.2) l2_counts := by
  intro ρ S K i r row s hE h5 h6 hK hU hr hg hs
  have hlen : K.length = x.1.length := by rw [← hK.len]; exact hl
  have ho := okSums_of h (List.mem_of_getElem? hg) hs hlen hU
  have e1 := sums_of_r (m := x.2) hK ho
  have hi : i < K.length := by rw [hlen]; exact (List.getElem?_eq_some_iff.mp hg).1
  have hS := hK.is i r _ hr (List.getElem?_eq_getElem hi)
  have hKg : K.getD i [] = K[i] := by rw [List.getD_eq_getElem?_getD, List.getElem?_eq_getElem hi]; rfl
  rw [← hKg] at hS
  have hF := (cf_sums x.1 x.2).grid hg hs hU
  obtain ⟨ρ', e2, c1, c2, c3⟩ := put_loop (v := 7) (by decide) (by decide) hr (sumsOf x.2 s K) hE h5 hS (by have := fold_len h.2.2.1.2 (hU.get i) hF; omega)
  refine ⟨ρ', ?_, c1, c2, c3⟩
  rw [← e2]
  have v1 := eV_at (S := S) hE.s1
  have v2 := eV_at (S := S) hE.s2
  have v6 := eV_at (S := S) h6
  unfold l2_counts
  simp [v1, v2, v6, e1]
  rfl
/-- the counts up to a number, rising -/
noncomputable def cntG (g : Gram) (m : Int) : List P2 := open Classical in sortP ((gridL m).filter fun p => decide (cnt g 0 p))
theorem nodup_flat {α β : Type} {f : α → List β} : ∀ {l : List α}, l.Nodup → (∀ a ∈ l, (f a).Nodup) → (∀ a ∈ l, ∀ b ∈ l, ∀ x, x ∈ f a → x ∈ f b → a = b) → (l.flatMap f).Nodup
  | [], _, _, _ => List.nodup_nil
  | a :: l, h, h1, h2 => by
    rw [List.flatMap_cons, List.nodup_append]
    obtain ⟨h3, h4⟩ := List.nodup_cons.mp h
    refine ⟨h1 a List.mem_cons_self, nodup_flat h4 (fun b hb => h1 b (List.mem_cons_of_mem _ hb)) fun b hb c hc => h2 b (List.mem_cons_of_mem _ hb) c (List.mem_cons_of_mem _ hc), fun x hx y hy hxy => ?_⟩
    obtain ⟨b, hb, hyb⟩ := List.mem_flatMap.mp hy
    subst hxy
    exact h3 (h2 a List.mem_cons_self b (List.mem_cons_of_mem _ hb) x hx hyb ▸ hb)
theorem grid_nodup (m : Int) : (gridL m).Nodup := by
  unfold gridL
  refine nodup_flat List.nodup_range (fun a _ => nodup_map_on (fun x _ y _ z => ?_) List.nodup_range) fun a _ b _ x hx hy => ?_
  · injection z with z1 z2; omega
  · obtain ⟨_, _, rfl⟩ := List.mem_map.mp hx
    obtain ⟨_, _, z⟩ := List.mem_map.mp hy
    injection z with z1 z2
    omega
open Classical in
theorem mem_cntG {g : Gram} {m : Int} {p : P2} : p ∈ cntG g m ↔ cnt g 0 p ∧ maxP p ≤ m := by
  unfold cntG sortP
  rw [List.mem_mergeSort, List.mem_filter, decide_eq_true_iff, mem_gridL]
  constructor
  · rintro ⟨⟨_, h2⟩, h3⟩; exact ⟨h3, h2⟩
  · rintro ⟨h3, h2⟩
    obtain ⟨row, _, t, _, hd⟩ := h3
    exact ⟨⟨hd.nn, h2⟩, ⟨row, by assumption, t, by assumption, hd⟩⟩
open Classical in
theorem cntG_len {g : Gram} {m : Int} (h : m ≤ 30) : (cntG g m).length ≤ 961 := by
  unfold cntG sortP
  rw [List.length_mergeSort]
  refine Nat.le_trans (List.length_filter_le _ _) ?_
  rw [grid_sq]
  have a : (m + 1).toNat ≤ 31 := by omega
  exact Nat.mul_le_mul a a
open Classical in
theorem sort_cnt {g : Gram} {m : Int} {k : List P2} (hn : k.Nodup) (h : ∀ p, p ∈ k ↔ cnt g 0 p ∧ maxP p ≤ m) : sortP k = cntG g m := by
  unfold cntG
  refine sortP_ext hn ((grid_nodup m).filter _) fun p => ?_
  have := mem_cntG (g := g) (m := m) (p := p)
  unfold cntG sortP at this
  rw [List.mem_mergeSort] at this
  rw [this, h]
noncomputable def p_counts : List D → M D := pureP (fun x : Gram × Int => [gramD x.1, .int x.2]) okC fun x => .tup ((cntG x.1 x.2).map pairD)
theorem encGM_inj (a b : Gram × Int) (h : [gramD a.1, D.int a.2] = [gramD b.1, .int b.2]) : a = b := by
  simp only [List.cons.injEq, D.int.injEq, and_true] at h
  exact Prod.ext (gramD_inj _ _ h.1) h.2
theorem counts_r {x : Gram × Int} (h : okC x) (S : Store) : p_counts [gramD x.1, .int x.2] S = some (.tup ((cntG x.1 x.2).map pairD), S) := pureP_r (enc := fun x : Gram × Int => [gramD x.1, D.int x.2]) encGM_inj h S
theorem knAt_first {S : Store} {rs : List Nat} {K : List (List P2)} {r : Nat} (h : KnAt S rs K) (hr : rs[0]? = some r) : S[r]? = some (.dct (stD (K.getD 0 []))) := by
  have hi : 0 < K.length := by rw [← h.len]; exact (List.getElem?_eq_some_iff.mp hr).1
  rw [h.is 0 r _ hr (List.getElem?_eq_getElem hi), List.getD_eq_getElem?_getD, List.getElem?_eq_getElem hi]; rfl
theorem fram_split {S J S' : Store} {n : Nat} (h : Fram (List.range' S.length n) (S ++ List.replicate n (.dct [])) S') : ∃ J', S' = S ++ J' ∧ J'.length = n := by
  have h1 : S'.length = S.length + n := by rw [h.1]; simp
  refine ⟨S'.drop S.length, ?_, by rw [List.length_drop]; omega⟩
  have h2 : S'.take S.length = S := by
    apply List.ext_getElem?
    intro j
    rw [List.getElem?_take]
    split
    · rename_i hj
      rw [h.2 j (by rw [List.mem_range'_1]; omega), List.getElem?_append_left hj]
    · rw [List.getElem?_eq_none (by omega)]
  rw [← h2, List.length_take, h1, Nat.min_eq_left (by omega), List.take_append_drop]
theorem r_counts : Refines g_counts p_counts := refines_pure (fun x h S => by
  obtain ⟨R, hR⟩ := cnt_exist (cf_sums x.1 x.2)
  obtain ⟨hS, hm⟩ := cnt_rounds (cf_sums x.1 x.2) hR
  have hl : (List.range' S.length x.1.length).length = x.1.length := by simp
  have hE : EnvR 9 x.1 x.2 (List.range' S.length x.1.length) [some (gramD x.1), some (.int x.2), some (.lst ((List.range' S.length x.1.length).map .ref)), none, some (.int (-1)), none, none, none, none] := ⟨rfl, rfl, rfl, rfl⟩
  obtain ⟨ρ', S', e1, c1, c2, c3⟩ := rounds_run (c := 8) (side_counts h hl) (by decide) (fun i row s K hg hs hU => (cf_sums x.1 x.2).grid hg hs hU) (by decide) (by decide) hl h.2.1 hR hE rfl knAt_new inK_new
  obtain ⟨J', e2, e3⟩ := fram_split (J := []) c3
  refine ⟨J', ?_⟩
  have hr : (List.range' S.length x.1.length)[0]? = some S.length := by rw [List.getElem?_range' (by have := h.1; omega)]; simp
  have hat := knAt_first c2 hr
  have hnod := (hS.ink.get 0).1
  have hsc := sort_cnt hnod (hm 0)
  have hlen := cntG_len (g := x.1) h.2.2.1.2
  have hkl : (R.getD 0 []).length ≤ 961 := by
    have := congrArg List.length hsc
    unfold sortP at this
    rw [List.length_mergeSort] at this
    omega
  have hso : fSorted false [.ref S.length] S' = some (.lst ((cntG x.1 x.2).map pairD), S') := by
    rw [← hsc]; exact fSorted_P hat (size_le (by omega))
  have hsub : opSub2 (.lst ((List.range' S.length x.1.length).map D.ref)) (.int 0) S' = some (.ref S.length, S') := by
    rw [opSub2_lst, atI_pos (by decide) (x := .ref S.length) (by rw [List.getElem?_map, show (0 : Int).toNat = 0 from rfl, hr]; rfl)]; rfl
  have v2 := eV_at (S := S') c1.s2
  have hc := compL_new (ρ := [some (gramD x.1), some (.int x.2), none, none, none, none, none, none, none]) (x.1.map rowD) S [] (by simpa using h.2.1)
  rw [List.length_map, List.nil_append] at hc
  have hnl : newL false ((List.range' S.length x.1.length).map D.ref) (S ++ List.replicate x.1.length (.dct [])) = some (.lst ((List.range' S.length x.1.length).map D.ref), S ++ List.replicate x.1.length (.dct [])) := newL_f (by rw [List.length_map, hl]; exact size_le (by have := h.2.1; omega))
  rw [← e2]
  have body : b_counts [some (gramD x.1), some (.int x.2), none, none, none, none, none, none, none] S = some (.rt (.tup ((cntG x.1 x.2).map pairD)) S') := by
    unfold b_counts
    refine (seq_nx (ρ1 := [some (gramD x.1), some (.int x.2), some (.lst ((List.range' S.length x.1.length).map .ref)), none, none, none, none, none, none]) (S1 := S ++ List.replicate x.1.length (.dct [])) ?_).trans ?_
    · have hgd : gramD x.1 = .tup (x.1.map rowD) := rfl
      rw [hgd] at hc ⊢
      generalize (List.range' S.length x.1.length).map D.ref = L at *
      simp [hc, hnl, gN]
    refine (seq_nx (ρ1 := [some (gramD x.1), some (.int x.2), some (.lst ((List.range' S.length x.1.length).map .ref)), none, some (.int (-1)), none, none, none, none]) (S1 := S ++ List.replicate x.1.length (.dct [])) rfl).trans ?_
    refine (seq_nx e1).trans ?_
    have v2' := v2
    generalize (List.range' S.length x.1.length).map D.ref = L at *
    simp [v2, hsub, hso]
  show (b_counts [some (gramD x.1), some (.int x.2), none, none, none, none, none, none, none] S).bind Res.out = _
  rw [body]
  rfl) fun x h n => low_noB _ (by rw [D.noB]; exact noBs_map _ fun p _ => noB_pair p)
end Ev
end L2

namespace L2
namespace Ev
open PyProof.Rows PySem.Spec PySem L2
variable [Tb]
open Enc (e)
noncomputable def p_law_sums : List D → M D := pureP (fun x : List P2 × List P2 × Int => [.lst (x.1.map pairD), .lst (x.2.1.map pairD), .int x.2.2]) (fun x => x.1.length * x.2.1.length ≤ 1000000) fun x => .lst ((lawSums x.1 x.2.1 x.2.2).map pairD)
theorem pairL_inj {l m : List P2} (h : l.map pairD = m.map pairD) : l = m := map_inj (fun a b h => Enc.inj (α := P2) h) h
theorem encLS_inj (a b : List P2 × List P2 × Int) (h : [D.lst (a.1.map pairD), .lst (a.2.1.map pairD), .int a.2.2] = [D.lst (b.1.map pairD), .lst (b.2.1.map pairD), .int b.2.2]) : a = b := by
  simp only [List.cons.injEq, D.lst.injEq, D.int.injEq, and_true] at h
  exact Prod.ext (pairL_inj h.1) (Prod.ext (pairL_inj h.2.1) h.2.2)
theorem law_sums_r {a o : List P2} {m : Int} (h : a.length * o.length ≤ 1000000) (S : Store) : p_law_sums [.lst (a.map pairD), .lst (o.map pairD), .int m] S = some (.lst ((lawSums a o m).map pairD), S) := pureP_r (enc := fun x : List P2 × List P2 × Int => [D.lst (x.1.map pairD), .lst (x.2.1.map pairD), .int x.2.2]) encLS_inj (a := (a, o, m)) h S
/-- law_sums: 0 law_one, 1 law_other, 2 law_most, 3 law_found, 4 law_first, 5 law_second, 6 law_both -/
noncomputable def l1_law_sums : MS := (sSeq (sAsg (eTup (aCons (eBin (opAdd false) (eBin opSub2 (eV 4) (eC (.int 0))) (eBin opSub2 (eV 5) (eC (.int 0)))) (aCons (eBin (opAdd false) (eBin opSub2 (eV 4) (eC (.int 1))) (eBin opSub2 (eV 5) (eC (.int 1)))) aNil))) (gN 6)) (sIf (tOf (eBin opLe (eFn fMax (aCons (eV 6) aNil)) (eV 2))) (sPut (eV 3) (eV 6) (eC (.bl true))) sNx))
noncomputable def l2_law_sums : MS := (sFor (iSeq (eV 1)) (gN 5) l1_law_sums)
noncomputable def b_law_sums : MS := (sSeq (sAsg eDnew (gN 3)) (sSeq (sFor (iSeq (eV 0)) (gN 4) l2_law_sums) (sRet (eFn (fListA false) (aCons (eV 3) aNil)))))
noncomputable def g_law_sums : List D → M D := runDef 7 b_law_sums
theorem sub_p0 (p : P2) (S : Store) : opSub2 (pairD p) (.int 0) S = some (.int p.1, S) := by unfold pairD; rw [opSub2_tup, at0]; rfl
theorem sub_p1 (p : P2) (S : Store) : opSub2 (pairD p) (.int 1) S = some (.int p.2, S) := by unfold pairD; rw [opSub2_tup, at1]; rfl
theorem lsum_in {x0 x1 : Option D} {m : Int} {q : Nat} {a : P2} : ∀ (o acc : List P2) (x5 x6 : Option D) (T : Store), T[q]? = some (.dct (stD acc)) → (((o.map (addP a)).filter fun p => decide (maxP p ≤ m)).foldl ins acc).length ≤ 1000000 →
    ∃ x5' x6', forL gYes (gN 5) l1_law_sums (o.map pairD) [x0, x1, some (.int m), some (.ref q), some (pairD a), x5, x6] T = some (.nx [x0, x1, some (.int m), some (.ref q), some (pairD a), x5', x6'] (T.set q (.dct (stD (((o.map (addP a)).filter fun p => decide (maxP p ≤ m)).foldl ins acc)))))
  | [], acc, x5, x6, T, h, _ => ⟨x5, x6, by rw [List.map_nil, List.map_nil, forL, if_pos (gYes_r (S := T)), List.filter_nil, List.foldl_nil, set_same h]⟩
  | b :: o, acc, x5, x6, T, h, hl => by
    rw [List.map_cons, List.filter_cons] at hl
    by_cases hm : maxP (addP a b) ≤ m
    · rw [if_pos (decide_eq_true hm), List.foldl_cons] at hl
      have h1 := foldl_ins_ge ((o.map (addP a)).filter fun p => decide (maxP p ≤ m)) (ins acc (addP a b))
      have h2 : acc.length ≤ (ins acc (addP a b)).length := by unfold ins; split <;> simp
      have hput : stPut (.ref q) (pairD (addP a b)) (.bl true) T = some (T.set q (.dct (stD (ins acc (addP a b))))) := stPut_st (α := P2) (S := T) (n := q) (l := acc) (addP a b) h (by omega)
      obtain ⟨x5', x6', ih⟩ := lsum_in (x0 := x0) (x1 := x1) o (ins acc (addP a b)) (some (pairD b)) (some (pairD (addP a b))) (T.set q (.dct (stD (ins acc (addP a b))))) (set_get h) hl
      refine ⟨x5', x6', ?_⟩
      rw [set_set'] at ih
      rw [List.map_cons, List.map_cons, List.filter_cons, if_pos (decide_eq_true hm), List.foldl_cons, ← ih]
      have hmx := fMax_pair (addP a b) T
      have hp : D.tup [.int (a.1 + b.1), .int (a.2 + b.2)] = pairD (addP a b) := rfl
      simp only [forL, gYes_r, if_true, gN, Option.bind_some, l1_law_sums]
      simp [sub_p0, sub_p1, hp, hmx, hm, hput]
    · rw [if_neg (by simpa using hm)] at hl
      obtain ⟨x5', x6', ih⟩ := lsum_in (x0 := x0) (x1 := x1) o acc (some (pairD b)) (some (pairD (addP a b))) T h hl
      refine ⟨x5', x6', ?_⟩
      rw [List.map_cons, List.map_cons, List.filter_cons, if_neg (by simpa using hm), ← ih]
      have hmx := fMax_pair (addP a b) T
      have hp : D.tup [.int (a.1 + b.1), .int (a.2 + b.2)] = pairD (addP a b) := rfl
      simp only [forL, gYes_r, if_true, gN, Option.bind_some, l1_law_sums]
      simp [sub_p0, sub_p1, hp, hmx, hm]
theorem lsum_mid {x0 : Option D} {m : Int} {q : Nat} {o : List P2} : ∀ (f acc : List P2) (x4 x5 x6 : Option D) (T : Store), T[q]? = some (.dct (stD acc)) → ((f.flatMap fun x => (o.map (addP x)).filter fun p => decide (maxP p ≤ m)).foldl ins acc).length ≤ 1000000 →
    ∃ x4' x5' x6', forL gYes (gN 4) l2_law_sums (f.map pairD) [x0, some (.lst (o.map pairD)), some (.int m), some (.ref q), x4, x5, x6] T = some (.nx [x0, some (.lst (o.map pairD)), some (.int m), some (.ref q), x4', x5', x6'] (T.set q (.dct (stD ((f.flatMap fun x => (o.map (addP x)).filter fun p => decide (maxP p ≤ m)).foldl ins acc)))))
  | [], acc, x4, x5, x6, T, h, _ => ⟨x4, x5, x6, by rw [List.map_nil, forL, if_pos (gYes_r (S := T)), List.flatMap_nil, List.foldl_nil, set_same h]⟩
  | a :: f, acc, x4, x5, x6, T, h, hl => by
    rw [List.flatMap_cons, foldl_ins_app] at hl
    have h1 := foldl_ins_ge (f.flatMap fun x => (o.map (addP x)).filter fun p => decide (maxP p ≤ m)) (((o.map (addP a)).filter fun p => decide (maxP p ≤ m)).foldl ins acc)
    obtain ⟨x5', x6', e1⟩ := lsum_in (x0 := x0) (x1 := some (.lst (o.map pairD))) (m := m) (a := a) o acc x5 x6 T h (by omega)
    obtain ⟨x4', x5'', x6'', ih⟩ := lsum_mid (x0 := x0) (o := o) f _ (some (pairD a)) x5' x6' (T.set q (.dct (stD (((o.map (addP a)).filter fun p => decide (maxP p ≤ m)).foldl ins acc)))) (set_get h) hl
    refine ⟨x4', x5'', x6'', ?_⟩
    rw [set_set'] at ih
    rw [List.flatMap_cons, foldl_ins_app, ← ih, List.map_cons]
    simp only [forL, gYes_r, if_true, gN, Option.bind_some, l2_law_sums]
    simp [e1]
theorem foldl_ins_le {κ : Type} [EncK κ] [DecidableEq κ] : ∀ (r ks : List κ), (r.foldl ins ks).length ≤ ks.length + r.length
  | [], ks => Nat.le_refl _
  | a :: r, ks => by
    have h := foldl_ins_le r (ins ks a)
    have h2 : (ins ks a).length ≤ ks.length + 1 := by unfold ins; split <;> simp
    rw [List.foldl_cons, List.length_cons]; omega
theorem flat_len {f o : List P2} {m : Int} : (f.flatMap fun x => (o.map (addP x)).filter fun p => decide (maxP p ≤ m)).length ≤ f.length * o.length := by
  induction f with
  | nil => simp
  | cons a f ih =>
    have h := List.length_filter_le (fun p => decide (maxP p ≤ m)) (o.map (addP a))
    rw [List.length_map] at h
    rw [List.flatMap_cons, List.length_append, List.length_cons, Nat.add_mul]; omega
theorem lawSums_len (f o : List P2) (m : Int) : (lawSums f o m).length ≤ f.length * o.length := by
  unfold lawSums
  have h := foldl_ins_le (f.flatMap fun x => (o.map (addP x)).filter fun p => decide (maxP p ≤ m)) []
  have h2 := flat_len (f := f) (o := o) (m := m)
  rw [List.length_nil] at h
  omega
theorem r_law_sums : Refines g_law_sums p_law_sums := refines_pure (fun x h S => by
  obtain ⟨f, o, m⟩ := x
  dsimp only at h ⊢
  have hl := lawSums_len f o m
  obtain ⟨x4', x5', x6', e1⟩ := lsum_mid (x0 := some (.lst (f.map pairD))) (m := m) (q := S.length) (o := o) f [] none none none (S ++ [Cell.dct (stD ([] : List P2))]) at_len (by show (lawSums f o m).length ≤ _; omega)
  rw [set_len] at e1
  have hat : (S ++ [Cell.dct (stD (lawSums f o m))])[S.length]? = some (.dct (stD (lawSums f o m))) := at_len
  have hk : (stD (lawSums f o m)).map (·.1) = (lawSums f o m).map pairD := by unfold stD; rw [List.map_map]; rfl
  have hlist : fListA false [.ref S.length] (S ++ [Cell.dct (stD (lawSums f o m))]) = some (.lst ((lawSums f o m).map pairD), S ++ [Cell.dct (stD (lawSums f o m))]) := by
    rw [fListA_dct hat, hk, newL_f (by rw [List.length_map]; exact size_le (by omega))]
  refine ⟨[Cell.dct (stD (lawSums f o m))], ?_⟩
  have e1' : forL gYes (gN 4) l2_law_sums (f.map pairD) [some (.lst (f.map pairD)), some (.lst (o.map pairD)), some (.int m), some (.ref S.length), none, none, none] (S ++ [Cell.dct []]) = some (.nx [some (.lst (f.map pairD)), some (.lst (o.map pairD)), some (.int m), some (.ref S.length), x4', x5', x6'] (S ++ [Cell.dct (stD (lawSums f o m))])) := e1
  simp only [g_law_sums, runDef, b_law_sums]
  simp [e1', hlist]) fun x h n => low_noB _ (by rw [D.noB]; exact noBs_map _ fun p _ => noB_pair p)
end Ev
end L2

namespace L2
namespace Ev
open PyProof.Rows PySem.Spec PySem L2
variable [Tb]
open Enc (e)
/-- law_counts: 0 law_grammar_here, 1 law_most, 2 law_known, 3 law_row, 4 law_size, 5 law_name, 6 law_side_here, 7 law_found, 8 law_part, 9 law_count, 10 law_some -/
noncomputable def l1_law_counts : MS := (sSeq (sAsg (eLst false (aCons (eTup (aCons (eFn fInt (aCons (eBin (opEq false) (eV 8) (eC (.str "a"))) aNil)) (aCons (eFn fInt (aCons (eBin (opEq false) (eV 8) (eC (.str "b"))) aNil)) aNil))) aNil)) (gN 10)) (sSeq (sIf (tNotD (tOf (eIsi "str" (eV 8)))) (sAsg (eFn (fListA false) (aCons (eBin opSub2 (eV 2) (eV 8)) aNil)) (gN 10)) sNx) (sAsg (eCall 3 p_law_sums (aCons (eV 7) (aCons (eV 10) (aCons (eV 1) aNil)))) (gN 7))))
noncomputable def l2_law_counts : MS := (sPut (eBin opSub2 (eV 2) (eV 5)) (eV 9) (eC (.bl true)))
noncomputable def l3_law_counts : MS := (sSeq (sAsg (eLst false (aCons (eTup (aCons (eC (.int 0)) (aCons (eC (.int 0)) aNil))) aNil)) (gN 7)) (sSeq (sFor (iSeq (eV 6)) (gN 8) l1_law_counts) (sFor (iSeq (eV 7)) (gN 9) l2_law_counts)))
noncomputable def l4_law_counts : MS := (sFor (iSeq (eV 3)) (gN 6) l3_law_counts)
noncomputable def l5_law_counts : MS := (sSeq (sAsg (eFn fSum (aCons (eLc false [10] (iSeq (eV 2)) (gN 10) tTrue (eFn fLenA (aCons (eV 10) aNil))) aNil)) (gN 4)) (sFor (iEnumD (aCons (eV 0) aNil)) (gTupD 2 (gConsD (gN 5) (gConsD (gN 3) gNilD))) l4_law_counts))
noncomputable def b_law_counts : MS := (sSeq (sAsg (eLc false [3] (iSeq (eV 0)) (gN 3) tTrue eDnew) (gN 2)) (sSeq (sAsg (eUn opNeg (eC (.int 1))) (gN 4)) (sSeq (sWhile (tOf (eBin (opEq true) (eV 4) (eFn fSum (aCons (eLc false [10] (iSeq (eV 2)) (gN 10) tTrue (eFn fLenA (aCons (eV 10) aNil))) aNil)))) l5_law_counts) (sRet (eBin opSub2 (eV 2) (eC (.int 0)))))))
noncomputable def g_law_counts : List D → M D := runDef 11 b_law_counts
noncomputable def lawR (x : Gram × Int) : List (List P2) := open Classical in if h : ∃ R, Rounds (lawF x.2) x.1 (-1) (List.replicate x.1.length []) R then h.choose else []
theorem lawR_rounds {x : Gram × Int} (h0 : 0 ≤ x.2) : Rounds (lawF x.2) x.1 (-1) (List.replicate x.1.length []) (lawR x) := by
  have h := cnt_exist (cf_law x.1 h0)
  unfold lawR
  rw [dif_pos h]; exact h.choose_spec
noncomputable def p_law_counts : List D → M D := newP (fun x : Gram × Int => [gramD x.1, .int x.2]) okC fun x => .dct (stD ((lawR x).getD 0 []))
theorem law_counts_r {x : Gram × Int} (h : okC x) (S : Store) : p_law_counts [gramD x.1, .int x.2] S = some (.ref S.length, S ++ [.dct (stD ((lawR x).getD 0 []))]) := newP_r (enc := fun x : Gram × Int => [gramD x.1, D.int x.2]) encGM_inj h S
theorem grid_le {f : List P2} {m : Int} (h30 : m ≤ 30) (h1 : f.Nodup) (h2 : ∀ x ∈ f, x ∈ gridL m) : f.length ≤ 961 := by
  have := nodup_le h1 h2
  rw [grid_sq] at this
  have a : (m + 1).toNat ≤ 31 := by omega
  have := Nat.mul_le_mul a a
  omega
theorem some_len {m : Int} {K : List (List P2)} (h30 : m ≤ 30) (hK : InK (gridL m) K) (p : Part) : (someOf K p).length ≤ 961 := by
  cases p with
  | a => simp [someOf]
  | b => simp [someOf]
  | nm i => exact grid_le h30 (hK.get _).1 (hK.get _).2
theorem part_eq (p : Part) {q : Part} {x : Str} (hq : partD q = .str x) (S : Store) : opEq false (partD p) (.str x) S = some (.bl (decide (p = q)), S) := by
  rw [← hq]
  refine Eq.trans (opEq_e (α := Part) false p q (S := S)) ?_
  simp
theorem law_part {g : Gram} {m : Int} {rs : List Nat} (h30 : m ≤ 30) {K : List (List P2)} {S : Store} (hK : KnAt S rs K) (hU : InK (gridL m) K) (p : Part) (hp : ∀ i, p = .nm i → 0 ≤ i ∧ i < K.length) {f : List P2} {ρ : EnvD} (hE : EnvR 11 g m rs ρ) (h7 : ρ[7]? = some (some (.lst (f.map pairD)))) (hf : f.length ≤ 961) :
    ∃ ρ', l1_law_counts (ρ.set 8 (some (partD p))) S = some (.nx ρ' S) ∧ EnvR 11 g m rs ρ' ∧ ρ'[4]? = ρ[4]? ∧ ρ'[5]? = ρ[5]? ∧ ρ'[7]? = some (some (.lst ((lawSums f (someOf K p) m).map pairD))) := by
  have hE1 : EnvR 11 g m rs (ρ.set 8 (some (partD p))) := hE.set 8 _
  have hlen := some_len h30 hU p
  have hmul : f.length * (someOf K p).length ≤ 1000000 := Nat.le_trans (Nat.mul_le_mul hf hlen) (by decide)
  have fin : ∀ ρ2 : EnvD, EnvR 11 g m rs ρ2 → ρ2[4]? = ρ[4]? → ρ2[5]? = ρ[5]? → ρ2[7]? = some (some (.lst (f.map pairD))) → ρ2[10]? = some (some (.lst ((someOf K p).map pairD))) →
      ∃ ρ', sAsg (eCall 3 p_law_sums (aCons (eV 7) (aCons (eV 10) (aCons (eV 1) aNil)))) (gN 7) ρ2 S = some (.nx ρ' S) ∧ EnvR 11 g m rs ρ' ∧ ρ'[4]? = ρ[4]? ∧ ρ'[5]? = ρ[5]? ∧ ρ'[7]? = some (some (.lst ((lawSums f (someOf K p) m).map pairD))) := fun ρ2 a1 a2 a3 a4 a5 => by
    have e1 := law_sums_r (m := m) hmul S
    have v7 := eV_at (S := S) a4
    have v10 := eV_at (S := S) a5
    have v1 := eV_at (S := S) a1.s1
    refine ⟨ρ2.set 7 (some (.lst ((lawSums f (someOf K p) m).map pairD))), ?_, a1.set 7 _, by rw [env_set (by decide)]; exact a2, by rw [env_set (by decide)]; exact a3, env_self (by rw [a1.len]; decide)⟩
    simp [v7, v10, v1, e1, gN]
  have v8 : eV 8 (ρ.set 8 (some (partD p))) S = some (partD p, S) := eV_at (env_self (by rw [hE.len]; decide))
  unfold l1_law_counts
  cases p with
  | a =>
    have hq1 : opEq false (.str "a") (.str "a") S = some (.bl true, S) := part_eq (.a) (q := .a) rfl S
    have hq2 : opEq false (.str "a") (.str "b") S = some (.bl false, S) := part_eq (.a) (q := .b) rfl S
    obtain ⟨ρ', e1, c⟩ := fin ((ρ.set 8 (some (partD .a))).set 10 (some (.lst [pairD (1, 0)]))) (hE1.set 10 _) (by rw [env_set (by decide), env_set (by decide)]) (by rw [env_set (by decide), env_set (by decide)]) (by rw [env_set (by decide), env_set (by decide)]; exact h7) (env_self (by rw [hE1.len]; decide))
    refine ⟨ρ', ?_, c⟩
    refine (seq_nx (ρ1 := (ρ.set 8 (some (partD .a))).set 10 (some (.lst [pairD (1, 0)]))) (S1 := S) ?_).trans ?_
    · simp only [partD] at v8 ⊢
      simp [v8, hq1, hq2, fInt, gN]
      rfl
    refine (seq_nx (ρ1 := (ρ.set 8 (some (partD .a))).set 10 (some (.lst [pairD (1, 0)]))) (S1 := S) ?_).trans e1
    have v8' : eV 8 ((ρ.set 8 (some (partD .a))).set 10 (some (.lst [pairD (1, 0)]))) S = some (.str "a", S) := eV_at (by rw [env_set (by decide)]; exact env_self (by rw [hE.len]; decide))
    simp [v8', isiT]
  | b =>
    have hq1 : opEq false (.str "b") (.str "a") S = some (.bl false, S) := part_eq (.b) (q := .a) rfl S
    have hq2 : opEq false (.str "b") (.str "b") S = some (.bl true, S) := part_eq (.b) (q := .b) rfl S
    obtain ⟨ρ', e1, c⟩ := fin ((ρ.set 8 (some (partD .b))).set 10 (some (.lst [pairD (0, 1)]))) (hE1.set 10 _) (by rw [env_set (by decide), env_set (by decide)]) (by rw [env_set (by decide), env_set (by decide)]) (by rw [env_set (by decide), env_set (by decide)]; exact h7) (env_self (by rw [hE1.len]; decide))
    refine ⟨ρ', ?_, c⟩
    refine (seq_nx (ρ1 := (ρ.set 8 (some (partD .b))).set 10 (some (.lst [pairD (0, 1)]))) (S1 := S) ?_).trans ?_
    · simp only [partD] at v8 ⊢
      simp [v8, hq1, hq2, fInt, gN]
      rfl
    refine (seq_nx (ρ1 := (ρ.set 8 (some (partD .b))).set 10 (some (.lst [pairD (0, 1)]))) (S1 := S) ?_).trans e1
    have v8' : eV 8 ((ρ.set 8 (some (partD .b))).set 10 (some (.lst [pairD (0, 1)]))) S = some (.str "b", S) := eV_at (by rw [env_set (by decide)]; exact env_self (by rw [hE.len]; decide))
    simp [v8', isiT]
  | nm i =>
    obtain ⟨hi0, hiK⟩ := hp i rfl
    have hq1 : opEq false (.int i) (.str "a") S = some (.bl false, S) := part_eq (.nm i) (q := .a) rfl S
    have hq2 : opEq false (.int i) (.str "b") S = some (.bl false, S) := part_eq (.nm i) (q := .b) rfl S
    have hE2 : EnvR 11 g m rs ((ρ.set 8 (some (partD (.nm i)))).set 10 (some (.lst [pairD (0, 0)]))) := hE1.set 10 _
    obtain ⟨ρ', e1, c⟩ := fin (((ρ.set 8 (some (partD (.nm i)))).set 10 (some (.lst [pairD (0, 0)]))).set 10 (some (.lst ((someOf K (.nm i)).map pairD)))) (hE2.set 10 _) (by rw [env_set (by decide), env_set (by decide), env_set (by decide)]) (by rw [env_set (by decide), env_set (by decide), env_set (by decide)]) (by rw [env_set (by decide), env_set (by decide), env_set (by decide)]; exact h7) (env_self (by rw [hE2.len]; decide))
    refine ⟨ρ', ?_, c⟩
    refine (seq_nx (ρ1 := (ρ.set 8 (some (partD (.nm i)))).set 10 (some (.lst [pairD (0, 0)]))) (S1 := S) ?_).trans ?_
    · simp only [partD] at v8 ⊢
      simp [v8, hq1, hq2, fInt, gN]
      rfl
    refine (seq_nx (ρ1 := ((ρ.set 8 (some (partD (.nm i)))).set 10 (some (.lst [pairD (0, 0)]))).set 10 (some (.lst ((someOf K (.nm i)).map pairD)))) (S1 := S) ?_).trans e1
    have v8' : eV 8 ((ρ.set 8 (some (partD (.nm i)))).set 10 (some (.lst [pairD (0, 0)]))) S = some (.int i, S) := eV_at (by rw [env_set (by decide)]; exact env_self (by rw [hE.len]; decide))
    have v2 := eV_at (S := S) hE2.s2
    have hiK' : i.toNat < K.length := by omega
    have hir : i.toNat < rs.length := by rw [hK.len]; exact hiK'
    have hr : rs[i.toNat]? = some rs[i.toNat] := List.getElem?_eq_getElem hir
    generalize rs[i.toNat] = r at hr
    have hS := hK.is i.toNat r _ hr (List.getElem?_eq_getElem hiK')
    have hKg : someOf K (.nm i) = K[i.toNat] := by show K.getD i.toNat [] = _; rw [List.getD_eq_getElem?_getD, List.getElem?_eq_getElem hiK']; rfl
    rw [← hKg] at hS
    have hsub : opSub2 (.lst (rs.map D.ref)) (.int i) S = some (.ref r, S) := by rw [opSub2_lst, atI_pos hi0 (x := .ref r) (by rw [List.getElem?_map, hr]; rfl)]; rfl
    have hk : (stD (someOf K (.nm i))).map (·.1) = (someOf K (.nm i)).map pairD := by unfold stD; rw [List.map_map]; rfl
    have hlist : fListA false [.ref r] S = some (.lst ((someOf K (.nm i)).map pairD), S) := by
      rw [fListA_dct hS, hk, newL_f (by rw [List.length_map]; exact size_le (by omega))]
    generalize (ρ.set 8 (some (partD (.nm i)))).set 10 (some (.lst [pairD (0, 0)])) = ρ2 at *
    generalize someOf K (.nm i) = z at *
    generalize rs.map D.ref = L at *
    simp [v8', v2, isiT, hsub, hlist, gN]
theorem law_parts {g : Gram} {m : Int} {rs : List Nat} (h30 : m ≤ 30) {K : List (List P2)} {S : Store} (hK : KnAt S rs K) (hU : InK (gridL m) K) : ∀ (ps : Side), (∀ i, Part.nm i ∈ ps → 0 ≤ i ∧ i < K.length) → ∀ {f : List P2} {ρ : EnvD}, EnvR 11 g m rs ρ → ρ[7]? = some (some (.lst (f.map pairD))) → f.Nodup → (∀ x ∈ f, x ∈ gridL m) →
    ∃ ρ', forL gYes (gN 8) l1_law_counts (ps.map partD) ρ S = some (.nx ρ' S) ∧ EnvR 11 g m rs ρ' ∧ ρ'[4]? = ρ[4]? ∧ ρ'[5]? = ρ[5]? ∧ ρ'[7]? = some (some (.lst ((lawL m K ps f).map pairD)))
  | [], _, f, ρ, hE, h7, _, _ => ⟨ρ, rfl, hE, rfl, rfl, h7⟩
  | p :: ps, hp, f, ρ, hE, h7, h1, h2 => by
    obtain ⟨ρ1, e1, c1, c2, c3, c4⟩ := law_part h30 hK hU p (fun i z => hp i (z ▸ List.mem_cons_self)) hE h7 (grid_le h30 h1 h2)
    have h2' : ∀ x ∈ lawSums f (someOf K p) m, x ∈ gridL m := fun x hx => by
      obtain ⟨⟨a, ha, b, hb, rfl⟩, hm⟩ := mem_lawSums.mp hx
      exact mem_gridL.mpr ⟨nn_add (mem_gridL.mp (h2 a ha)).1 (some_nn hU p b hb), hm⟩
    obtain ⟨ρ', e2, d1, d2, d3, d4⟩ := law_parts h30 hK hU ps (fun i z => hp i (List.mem_cons_of_mem _ z)) c1 c4 (foldl_ins_nodup _ List.nodup_nil) h2'
    refine ⟨ρ', ?_, d1, d2.trans c2, d3.trans c3, d4⟩
    rw [List.map_cons, forL, if_pos (gYes_r (S := S))]
    show (l1_law_counts (ρ.set 8 (some (partD p))) S).bind _ = _
    rw [e1]
    exact e2
theorem side_law {x : Gram × Int} (h : okC x) {rs : List Nat} (hl : rs.length = x.1.length) : SideOk 11 x.1 x.2 rs (lawF x.2) (gridL x.2) l3_law_counts := by
  intro ρ S K i r row s hE h5 h6 hK hU hr hg hs
  have hlen : K.length = x.1.length := by rw [← hK.len]; exact hl
  have hi : i < K.length := by rw [hlen]; exact (List.getElem?_eq_some_iff.mp hg).1
  have hS := hK.is i r _ hr (List.getElem?_eq_getElem hi)
  have hKg : K.getD i [] = K[i] := by rw [List.getD_eq_getElem?_getD, List.getElem?_eq_getElem hi]; rfl
  rw [← hKg] at hS
  have hnm := (h.2.2.2 row (List.mem_of_getElem? hg) s hs).2
  rw [← hlen] at hnm
  have hE7 : EnvR 11 x.1 x.2 rs (ρ.set 7 (some (.lst [pairD (0, 0)]))) := hE.set 7 _
  obtain ⟨ρ1, e1, a1, a2, a3, a4⟩ := law_parts h.2.2.1.2 hK hU s hnm (f := [(0, 0)]) hE7 (env_self (by rw [hE.len]; decide)) (List.nodup_cons.mpr ⟨by simp, List.nodup_nil⟩) (fun y hy => by rw [List.mem_singleton.mp hy]; exact mem_gridL.mpr ⟨⟨by decide, by decide⟩, h.2.2.1.1⟩)
  have hF := (cf_law x.1 h.2.2.1.1).grid hg hs hU
  have a5 : ρ1[5]? = some (some (.int (i : Nat))) := by rw [a3, env_set (by decide)]; exact h5
  obtain ⟨ρ', e2, c1, c2, c3⟩ := put_loop (v := 9) (by decide) (by decide) hr (lawL x.2 K s [(0, 0)]) a1 a5 hS (by have := fold_len h.2.2.1.2 (hU.get i) hF; exact Nat.le_trans this (by decide))
  refine ⟨ρ', ?_, c1, by rw [c2, a2, env_set (by decide)], by rw [c3, a3, env_set (by decide)]⟩
  show l3_law_counts ρ S = some (.nx ρ' (S.set r (.dct (stD ((lawL x.2 K s [(0, 0)]).foldl ins (K.getD i []))))))
  rw [← e2]
  unfold l3_law_counts
  refine (seq_nx (ρ1 := ρ.set 7 (some (.lst [pairD (0, 0)]))) (S1 := S) rfl).trans ?_
  have v6 : eV 6 (ρ.set 7 (some (.lst [pairD (0, 0)]))) S = some (sideD s, S) := eV_at (by rw [env_set (by decide)]; exact h6)
  have v7 := eV_at (S := S) a4
  have hsd : sideD s = .tup (s.map partD) := rfl
  rw [hsd] at v6
  refine (seq_nx (ρ1 := ρ1) (S1 := S) ?_).trans ?_
  · rw [← e1]
    simp [v6]
  · generalize lawL x.2 K s [(0, 0)] = z at *
    simp [v7]
    rfl
theorem r_law_counts : Refines g_law_counts p_law_counts := refines_new (fun x h S => by
  have hR := lawR_rounds h.2.2.1.1
  have hl : (List.range' S.length x.1.length).length = x.1.length := by simp
  have hE : EnvR 11 x.1 x.2 (List.range' S.length x.1.length) [some (gramD x.1), some (.int x.2), some (.lst ((List.range' S.length x.1.length).map .ref)), none, some (.int (-1)), none, none, none, none, none, none] := ⟨rfl, rfl, rfl, rfl⟩
  obtain ⟨ρ', S', e1, c1, c2, c3⟩ := rounds_run (c := 10) (side_law h hl) (by decide) (fun i row s K hg hs hU => (cf_law x.1 h.2.2.1.1).grid hg hs hU) (by decide) (by decide) hl h.2.1 hR hE rfl knAt_new inK_new
  obtain ⟨J', e2, e3⟩ := fram_split (J := []) c3
  have hr : (List.range' S.length x.1.length)[0]? = some S.length := by rw [List.getElem?_range' (by have := h.1; omega)]; simp
  have hat := knAt_first c2 hr
  have hJ : ∃ j, J' = .dct (stD ((lawR x).getD 0 [])) :: j := by
    cases J' with
    | nil => have := h.1; simp at e3; omega
    | cons c j =>
      rw [e2, List.getElem?_append_right (Nat.le_refl _), Nat.sub_self] at hat
      refine ⟨j, ?_⟩
      rw [List.getElem?_cons_zero, Option.some.injEq] at hat
      rw [hat]
  obtain ⟨j, rfl⟩ := hJ
  refine ⟨j, ?_⟩
  have hsub : opSub2 (.lst ((List.range' S.length x.1.length).map D.ref)) (.int 0) S' = some (.ref S.length, S') := by
    rw [opSub2_lst, atI_pos (by decide) (x := .ref S.length) (by rw [List.getElem?_map, show (0 : Int).toNat = 0 from rfl, hr]; rfl)]; rfl
  have v2 := eV_at (S := S') c1.s2
  have hc := compL_new (ρ := [some (gramD x.1), some (.int x.2), none, none, none, none, none, none, none, none, none]) (x.1.map rowD) S [] (by simpa using h.2.1)
  rw [List.length_map, List.nil_append] at hc
  have hnl : newL false ((List.range' S.length x.1.length).map D.ref) (S ++ List.replicate x.1.length (.dct [])) = some (.lst ((List.range' S.length x.1.length).map D.ref), S ++ List.replicate x.1.length (.dct [])) := newL_f (by rw [List.length_map, hl]; exact size_le (by have := h.2.1; omega))
  rw [← e2]
  have body : b_law_counts [some (gramD x.1), some (.int x.2), none, none, none, none, none, none, none, none, none] S = some (.rt (.ref S.length) S') := by
    unfold b_law_counts
    refine (seq_nx (ρ1 := [some (gramD x.1), some (.int x.2), some (.lst ((List.range' S.length x.1.length).map .ref)), none, none, none, none, none, none, none, none]) (S1 := S ++ List.replicate x.1.length (.dct [])) ?_).trans ?_
    · have hgd : gramD x.1 = .tup (x.1.map rowD) := rfl
      rw [hgd] at hc ⊢
      generalize (List.range' S.length x.1.length).map D.ref = L at *
      simp [hc, hnl, gN]
    refine (seq_nx (ρ1 := [some (gramD x.1), some (.int x.2), some (.lst ((List.range' S.length x.1.length).map .ref)), none, some (.int (-1)), none, none, none, none, none, none]) (S1 := S ++ List.replicate x.1.length (.dct [])) rfl).trans ?_
    refine (seq_nx e1).trans ?_
    generalize (List.range' S.length x.1.length).map D.ref = L at *
    simp [v2, hsub]
  show (b_law_counts [some (gramD x.1), some (.int x.2), none, none, none, none, none, none, none, none, none] S).bind Res.out = _
  rw [body]
  rfl) fun x h n p hp => by
  obtain ⟨q, _, rfl⟩ := List.mem_map.mp hp
  exact ⟨low_noB _ (noB_pair q), rfl⟩
end Ev
end L2

namespace L2
namespace Ev
open PyProof.Rows PySem.Spec PySem L2
variable [Tb]
open Enc (e)
theorem okC_gramV (n : Int) {m : Int} (h0 : 0 ≤ m) (h1 : m ≤ 30) : okC (gramV n, m) := by
  have hm := manyV_b n
  refine ⟨by rw [gramV_len]; omega, by rw [gramV_len]; omega, ⟨h0, h1⟩, fun r hr s hs => ?_⟩
  rcases gramV_mem hr with rfl | ⟨name, rfl⟩
  · cases hs
  · obtain ⟨x, pl, rfl⟩ := rowV_mem hs
    have := sideV_len x (manyV n : Nat) pl
    refine ⟨by omega, fun i hi => ?_⟩
    have := sideV_b (n := x) (many := (manyV n : Nat)) (plain := pl) (by omega) _ hi i rfl
    rw [gramV_len]; exact this
theorem law_sorted {x : Gram × Int} (h : okC x) : (sortP ((lawR x).getD 0 []) = cntG x.1 x.2) ∧ ((lawR x).getD 0 []).Nodup := by
  obtain ⟨hS, hm⟩ := cnt_rounds (cf_law x.1 h.2.2.1.1) (lawR_rounds h.2.2.1.1)
  exact ⟨sort_cnt (hS.ink.get 0).1 (hm 0), (hS.ink.get 0).1⟩
theorem law_len {x : Gram × Int} (h : okC x) : ((lawR x).getD 0 []).length ≤ 961 := by
  have h1 := congrArg List.length (law_sorted h).1
  have h2 := cntG_len (g := x.1) h.2.2.1.2
  unfold sortP at h1
  rw [List.length_mergeSort] at h1
  omega
/-- the asking for truths among counts -/
theorem no_bools {v : Nat} {ρ : EnvD} (hv : v < ρ.length) (ps : List P2) (hl : ps.length ≤ 1000000) (S : Store) : compL gYes [v] (gN v) (tOrD (tOf (eIsi "bool" (eBin opSub2 (eV v) (eC (.int 0))))) (tOf (eIsi "bool" (eBin opSub2 (eV v) (eC (.int 1)))))) (eV v) (ps.map pairD) ρ S [] = some ([], S) := by
  rw [compL_pure rfl (fun _ => false) id]
  · simp
  · intro d hd
    obtain ⟨p, hp, rfl⟩ := List.mem_map.mp hd
    refine ⟨_, rfl, ?_, fun z => by cases z⟩
    have e0 := sub_p0 p S
    have e1 := sub_p1 p S
    have hvv : eV v ((wipeD ρ [v]).set v (some (pairD p))) S = some (pairD p, S) := eV_at (env_self (by simp [wipeD, hv]))
    simp [hvv, e0, e1, isiT]
  · rw [List.length_nil, List.length_map]; exact size_le (by omega)
theorem opEq_pairs (neg : Bool) (ps : List P2) (S : Store) : opEq neg (.tup (ps.map pairD)) (.tup (ps.map pairD)) S = some (.bl (!neg), S) := by
  have := opEq_e (α := List P2) neg ps ps (S := S)
  refine Eq.trans this ?_
  cases neg <;> simp
theorem opEq_nils (neg : Bool) (S : Store) : opEq neg (.lst []) (.lst []) S = some (.bl (!neg), S) := by
  cases neg <;> (rw [opEq_noB rfl rfl (by simp [D.dep, D.deps])]; simp)
end Ev
end L2

namespace L2
namespace Ev
open PyProof.Rows PySem.Spec PySem L2
open PySem.W (KeyPure kla_obj kla_fn)
/-! ### a lambda with one parameter, as a key -/
section
variable {prog : Program} {w : World} {A : Around} {s : Shared} {f c' : Addr} {qual a : Str} {params : Arguments} {body : Expr} {scope : Scope} {pm ctv v : Value} {k : PyData}
theorem lam_run (hroom : A.depth < recursionLimit) (of : s.heap.get? f = some (kla_obj "<lambda>" qual params body scope [] pm c' ctv)) (hco : scope.isCoroutine = false) (hgen : scope.isGenerator = false) (hkind : scope.kind = .function) (hcd : s.heap.CodeRec (.ref c') qual)
    (hbind : bindArgs (kla_fn "<lambda>" qual params body scope [] pm (.ref c') ctv) ⟨[v], []⟩ = pure [(a, v)]) (hloc : scope.names.lookup a = some .local) (hnc : ∀ x ∈ scope.names, x.2 ≠ .cell) (hnl : s.heap.NoLimit)
    (hb : ∀ (h' : Heap) (tk : Nat) (L : Addr), (∀ b o, s.heap.get? b = some o → h'.get? b = some o) → h'.Ns L (fun x => [(a, v)].reverse.lookup x) →
      wpAny (model prog w) (A.deeper (PySem.W.envX qual scope L f (.ref c') [])) (eval body (PySem.W.envX qual scope L f (.ref c') [])) (KeyPure k s) (fun _ _ => False) { s with heap := h', toks := tk }) :
    wpAny (model prog w) A (call (.ref f) [v]) (KeyPure k s) (fun _ _ => False) s := by
  refine wpAny_call (PySem.W.kla_callFunE hroom of rfl hco hgen rfl hcd ?_)
  rw [hbind]
  refine wpAny_pure (wpAny_newFunctionEnv hnc (fun x hx => ?_) (fun h₁ hns hsb => ⟨hnl.fresh _ hsb, ?_⟩) hkind)
  · rw [List.mem_singleton.mp hx]; exact hloc
  · have kp : ∀ b o, s.heap.get? b = some o → h₁.get? b = some o := fun b o e => hsb.extBut b o (Nat.ne_of_lt (Heap.lt_size e)) (Heap.get?_push_of_some _ e)
    have h := hb h₁ (s.toks + ([(a, v)] : List (Str × Value)).length) s.heap.objs.size kp hns
    show codeAny _ _ (.expr body (PySem.W.envX qual scope s.heap.objs.size f (.ref c') [])) _ _
    exact PySem.W.kla_codeExpr (wpAny_mono h (fun v s' q => q) fun e s' q => q.elim)
/-! the two bodies -/
variable {env : Env} {h' : Heap} {tk L : Nat} {mg mb : Str → Option Value} {p1 p2 p3 p4 p5 p6 p7 p8 p9 : Pos} {j j2 j3 : Nat}
/-- (len(x), x) -/
theorem body_len {z : Str} {t : Tok} (hk : env.scope.kind = .function) (hl : env.kindOf a = some .local) (hg : env.kindOf "len" = some .globalImplicit) (hn : h'.Ns env.locals (fun x => [(a, Value.str z t)].reverse.lookup x))
    (hG : h'.Ns env.globals mg) (hm : mg "len" = none) (hB : h'.Ns env.builtins mb) (hb : mb "len" = some (.builtin "len")) (hz : ¬ (z.length : Int) ≥ 2 ^ 63) (kp : ∀ b o, s.heap.get? b = some o → h'.get? b = some o) (hd : (a == ("__debug__" : Str)) = false) :
    wpAny (model prog w) A (eval (.Tuple [.Call (.Name "len" p1) [.Name a p2] [] p3, .Name a p4] j p5) env) (KeyPure (.tuple [.int z.length, .str z]) s) (fun _ _ => False) { s with heap := h', toks := tk } := by
  have nm : ∀ (tk : Nat) (p : Pos) (Q : Value → Shared → Prop), Q (.str z t) { s with heap := h', toks := tk } → wpAny (model prog w) A (eval (.Name a p) env) Q (fun _ _ => False) { s with heap := h', toks := tk } := fun tk p Q h =>
    wpAny_Name (wpAny_loadName_local (s := { s with heap := h', toks := tk }) hk hl hn (by simp) h) hd
  refine wpAny_Tuple (wpAny_items_cons ?_)
  refine wpAny_Call_Name_kw (Calls.Name_function_global hk hg (Calls.loadGlobal_builtin (s := { s with heap := h', toks := tk }) hG hm hB hb ?_))
  refine PyProof.Rows.callWith_builtin1 (wpAny_items_cons (nm _ _ _ (wpAny_items_nil ?_)))
  refine len_str hz ?_
  refine wpAny_items_cons (nm _ _ _ (wpAny_items_nil ⟨(by rw [sizeLine_eq]; exact Nat.le_of_ble_eq_true rfl), ?_⟩))
  refine ⟨_, _, rfl, fun b o e => Heap.get?_push_of_some _ (kp b o e), ?_⟩
  exact Reads.tuple (as := []) (Heap.get?_push_size _ rfl) rfl rfl (ReadsAll.cons (as := []) (bs := []) (.int _ _) (.cons (as := []) (bs := []) (.str _ _) .nil))
/-- (x[0] + x[1], x) -/
theorem body_sum {r : Addr} {its : Array Value} {m n : Int} {t u : Tok} (hk : env.scope.kind = .function) (hl : env.kindOf a = some .local) (hn : h'.Ns env.locals (fun x => [(a, Value.ref r)].reverse.lookup x))
    (ht : PyProof.Rows.IsTup s.heap r its) (hi : its = #[.int m t, .int n u]) (kp : ∀ b o, s.heap.get? b = some o → h'.get? b = some o) (hd : (a == ("__debug__" : Str)) = false) :
    wpAny (model prog w) A (eval (.Tuple [.BinOp (.Subscript (.Name a p1) (.Constant (.int 0) j p2) p3) .Add (.Subscript (.Name a p4) (.Constant (.int 1) j2 p5) p6) p7, .Name a p8] j3 p9) env) (KeyPure (.tuple [.int (m + n), .tuple [.int m, .int n]]) s) (fun _ _ => False) { s with heap := h', toks := tk } := by
  have nm : ∀ (tk : Nat) (p : Pos) (Q : Value → Shared → Prop), Q (.ref r) { s with heap := h', toks := tk } → wpAny (model prog w) A (eval (.Name a p) env) Q (fun _ _ => False) { s with heap := h', toks := tk } := fun tk p Q h =>
    wpAny_Name (wpAny_loadName_local (s := { s with heap := h', toks := tk }) hk hl hn (by simp) h) hd
  have hT : ∀ tk : Nat, PyProof.Rows.IsTup ({ s with heap := h', toks := tk } : Shared).heap r its := fun _ => ht.keeps kp
  subst hi
  have sub : ∀ (tk : Nat) (i : Nat) (x : Int) (tx : Tok) (q1 q2 q3 : Pos) (jj : Nat) (Q : Value → Shared → Prop), i < 2 → (#[Value.int m t, .int n u] : Array Value)[i]? = some (.int x tx) → (∀ tk', Q (.int x tx) { s with heap := h', toks := tk' }) →
      wpAny (model prog w) A (eval (.Subscript (.Name a q1) (.Constant (.int (i : Nat)) jj q2) q3) env) Q (fun _ _ => False) { s with heap := h', toks := tk } := fun tk i x tx q1 q2 q3 jj Q hi hx h => by
    refine PyProof.Rows.Subscript_ (nm _ _ _ (wpAny_Constant_int ?_))
    refine PyProof.Rows.tail_any (PyProof.Rows.IsTup.typeIs (hT _)) slot_tuple_getitem.lookup (PyProof.Rows.getItem_tuple (hT _) (by omega) (by omega) (j := i) ?_ hx (h _)) rfl
    have : (#[Value.int m t, .int n u] : Array Value).size = 2 := rfl
    rw [this]
    exact PySem.StrLaws.seqIndex_nonneg (by omega) (by omega)
  refine wpAny_Tuple (wpAny_items_cons ?_)
  refine wpAny_BinOp (sub _ 0 m t _ _ _ _ _ (by decide) rfl fun tk1 => sub _ 1 n u _ _ _ _ _ (by decide) rfl fun tk2 => ?_)
  refine add_int ?_
  refine wpAny_items_cons (nm _ _ _ (wpAny_items_nil ⟨(by rw [sizeLine_eq]; exact Nat.le_of_ble_eq_true rfl), ?_⟩))
  refine ⟨_, _, rfl, fun b o e => Heap.get?_push_of_some _ (kp b o e), ?_⟩
  obtain ⟨o, ho, hc, nn, hd⟩ := ht
  exact Reads.tuple (as := []) (Heap.get?_push_size _ rfl) rfl rfl (ReadsAll.cons (as := []) (bs := []) (.int _ _) (.cons (as := []) (bs := []) (.tuple (as := []) (Heap.get?_push_of_some _ (kp _ _ ho)) hc hd (.cons (as := []) (bs := []) (.int _ _) (.cons (as := []) (bs := []) (.int _ _) .nil))) .nil))
end
end Ev
end L2

namespace L2
namespace Ev
open PyProof.Rows PySem.Spec PySem L2
variable [Tb]
open PySem.W (KeyPure kla_obj kla_fn)
/-! ### sorted with a lambda for a key -/
section
variable {P : Program} {w : World} {K : PySem.W.Frag} {W : Wd}
theorem plain_ext {H H1 : Hp} (e : LamX.ExtN H H1) {a : Addr} {o : HO} (h : H a = some o) (p : plainO o) : H1 a = some o := e a o h p.1
/-- the tables have grown -/
theorem Step.tabs (ok : WOk P w K W) {H1 : Hp} (e : LamX.ExtN W.H H1) (t : LamX.Tabs Tb.T H1) : Step P w K W W.S { W with H := H1 } := by
  have nf : ∀ {o : HO}, (∀ ps, o ≠ .tbl ps) → ∀ {a : Addr}, W.H a = some o → H1 a = some o := fun {o} h {a} ha => e a _ ha h
  have ex : Ext K W { W with H := H1 } := Ext.of (fun a xs h => by
      rcases h with h | h
      · rcases h with h | ⟨ob, h⟩
        · exact .inl (.inl (nf (fun _ z => by cases z) h))
        · exact .inl (.inr ⟨ob, nf (fun _ z => by cases z) h⟩)
      · exact .inr h) (fun a xs h f => ⟨nf (fun _ z => by cases z) h, f⟩) (fun a o xs h => nf (fun _ z => by cases z) h) fun n a h => h
  have hh : ∀ a ∈ W.hid, H1 a = W.H a := fun a ha => by
    obtain ⟨o, h1, h2⟩ := ok.tab.pl a ha
    rw [plain_ext e h1 h2, h1]
  refine ⟨ex, ⟨ok.len, ok.inj, fun n a c h1 h2 => ?_, fun a ha => ?_, ok.apart, ⟨t, fun a ha => ?_⟩⟩, rfl, rfl, hh⟩
  · have q := ok.cell n a c h1 h2
    by_cases hc : c = .dead
    · subst hc; trivial
    · obtain ⟨o, g1, g2⟩ := q.plain hc
      exact q.ext ex (by show H1 a = W.H a; rw [plain_ext e g1 g2, g1])
  · show H1 a ≠ none
    rw [hh a ha]; exact ok.hid a ha
  · obtain ⟨o, h1, h2⟩ := ok.tab.pl a ha
    exact ⟨o, plain_ext e h1 h2, h2⟩
end
/-- a lambda is a key: it gives kf of what okk holds of -/
structure KeyL (X : Cx) (params : Arguments) (body : Expr) (scope : Scope) (kf : D → D) (okk : D → Bool) : Prop where
  turn : ∀ (pins : List (Addr × Obj)) (σ : St) (W : Wd) (s : Shared) (f c' : Addr) (pm ctv : Value) (d : D) (v : Value) (h : Heap) (tk : Nat), Inv X pins σ W.H s → s.heap.get? f = some (kla_obj "<lambda>" (X.env.qual ++ "<lambda>") params body scope [] pm c' ctv) → s.heap.CodeRec (.ref c') (X.env.qual ++ "<lambda>") →
    okk d = true → Is X.K W d v → (∀ b o, s.heap.get? b = some o → h.get? b = some o) →
      wpAny (model X.prog X.w) X.A.in1.in1 (call (.ref f) [v]) (KeyPure (ordK (kf d)) { s with heap := h, toks := tk }) (fun _ _ => False) { s with heap := h, toks := tk }
def leK (kf : D → D) (a b : D) : Bool := leD (kf a) (kf b)
def sortK (mu : Bool) (kf : D → D) (okk : D → Bool) (x : D) : M D := fun S => (itemsOf S x).bind fun ks => if ks.all okk = true ∧ sortOk (ks.map kf) = true then newL mu (ks.mergeSort (leK kf)) S else none
def eSortK (mu : Bool) (kf : D → D) (okk : D → Bool) (fa : ME) : ME := fun ρ S => (fa ρ S).bind fun (x, S1) => sortK mu kf okk x S1
section
variable {X : Cx} {e : Expr} {fa : ME} {p pos lpos kpos : Pos} {params : Arguments} {body : Expr} {scope : Scope} {kf : D → D} {okk : D → Bool} {c P : Addr}
theorem e_sortK (mu : Bool) (hg : Gl X "sorted") (hm : X.mg "sorted" = none) (hc : X.calm = true) (hu : X.A.units + 190 < cLine) (he : EvE X e fa) (KL : KeyL X params body scope kf okk) (nf : ∀ y ∈ scope.names, y.2 ≠ NameKind.free) (hclo : cloFrom X.env.cells scope.names [] = [])
    (TB : LamX.TabB X.base X.mg c P) (hcode : X.env.code = .ref c) (hmT : (P, X.env.qual ++ "<lambda>") ∈ Tb.T) (huT : ∀ p ∈ Tb.T, p.1 = P → p.2 = X.env.qual ++ "<lambda>") (hdef : defaultsOf params X.env = ([], []))
    (hs : starEach [e] X.env = (false, eval e X.env) :: starEach [] X.env := by rfl) (hpl : (backTo pos (starEach [e] X.env)).any (·.1) = false := by rfl) :
    EvE X (.Call (.Name "sorted" p) [e] [⟨some "key", .Lambda params body scope lpos, kpos⟩] pos) (eSortK mu kf okk fa) := ⟨fun pins s σ H Q I q => by
  obtain ⟨W0, ρ, d, S', rfl, ok0, hρ, he', q⟩ := q
  unfold eSortK at he'
  rw [Option.bind_eq_some_iff] at he'
  obtain ⟨⟨x, S1⟩, e1, he'⟩ := he'
  unfold sortK at he'
  dsimp only at he'
  rw [Option.bind_eq_some_iff] at he'
  obtain ⟨ks, e2, he'⟩ := he'
  split at he'
  · rename_i hk
    obtain ⟨hok, hso⟩ := hk
    obtain ⟨hk1, hk2, hk3⟩ := sortOk_of hso
    have hlen := newL_len he'
    rw [List.length_mergeSort] at hlen
    refine wpAny_Call_Name_kw (ld_blt I hg hm (u := .builtin "sorted") (by first | rfl | decide +kernel) ?_)
    refine PyProof.Rows.callWith_kw (wpAny_items_cons (thn (he.run pins s σ W0.H (fun z H1 => ∃ W1, W1.H = H1 ∧ Stp (md X) W0 S1 W1 ∧ Rp X.K W1 x z) I ⟨W0, ρ, x, S1, rfl, ok0, hρ, e1, fun W1 z st r => ⟨W1, rfl, st, r⟩⟩) fun u s1 ⟨z, H1, I1, ru, W1, eW1, st1, r1⟩ => wpAny_items_nil ?_) hs) (by rw [hs]; rfl) hpl
    subst eW1
    show wpAny _ _ (evalAll [do let v ← eval (.Lambda params body scope lpos) X.env; standAt pos; pure v]) _ _ s1
    refine wpAny_evalAll_cons (wpAny_bind (LamX.lam_make2 I1 TB hcode hmT huT st1.ok.tab.tabs hdef (fun y hy e => absurd e (nf y hy)) fun f c' pm ctv H2 s2 I2 eN T2 hf hfn hfr hco => wpAny_bind (wpAny_standAt (wpAny_pure (wpAny_evalAll_nil ?_)))))
    show wpAny _ _ (call (.builtin "sorted") [u] [(Str.ofString "key", .ref f)]) _ _ _
    rw [hclo] at hf
    have st2 := Step.tabs st1.ok eN T2
    have hcr : s2.heap.CodeRec (.ref c') (X.env.qual ++ "<lambda>") := by
      obtain ⟨⟨oc, vs, t, h1, h2, h3⟩, _, _⟩ := I2.hok c' _ hco
      exact ⟨c', oc, vs, t, rfl, h1, h2, h3⟩
    have ok2 := st2.ok
    have r2 := st2.ext _ _ r1
    have e2 : itemsOf ({ W1 with H := H2 } : Wd).S x = some ks := by show itemsOf W1.S x = _; rw [st1.st]; exact e2
    have he2 : newL mu (ks.mergeSort (leK kf)) ({ W1 with H := H2 } : Wd).S = some (d, S') := by show newL _ _ W1.S = _; rw [st1.st]; exact he'
    have q2 : Pst (md X) { W1 with H := H2 } S' d Q := (q.step st1).step st2
    have I2 : Inv X pins σ ({ W1 with H := H2 } : Wd).H s2 := I2
    have I2s : Inv X pins σ ({ W1 with H := H2 } : Wd).H { s2 with heap := s2.heap, toks := s2.toks } := I2
    generalize ({ W1 with H := H2 } : Wd) = W at *
    have hun : ∀ b, b ∈ ks → X.A.units + 2 + (ordK (kf b)).depth < cLine := fun b hb => by have := (hk1 (kf b) (List.mem_map_of_mem hb)).2; omega
    have hle : PySem.W.dataLe false (fun b => ordK (kf b)) = leK kf := rfl
    have hall : PySem.W.AllAlike (ks.map fun b => ordK (kf b)) := by have := hk2; rw [List.map_map] at this; exact this
    have hsrt : PySem.W.Sortable (ks.map fun b => ordK (kf b)) := by have := hk3; rw [List.map_map] at this; exact this
    have okd : ∀ b ∈ ks, okk b = true := fun b hb => List.all_eq_true.mp hok b hb
    unfold itemsOf at e2
    split at e2
    · rename_i kvs hk
      cases e2
      obtain ⟨a, rfl, hs, hz, hd⟩ := dct_open I2 ok2 hk r2
      obtain rfl : u = .ref a := ru
      obtain ⟨es, ep, g1, g2, g3⟩ := hd.raw
      refine call_function_entry_kw PyProof.Rows.kind_sorted PyProof.Rows.plain_sorted PyProof.Rows.entry_sorted (PyProof.Rows.ksk_s1 _ _) ?_
      unfold Builtin.«sorted»
      refine wpAny_bind (m := checkCount "sorted" 1 1 _) (wpAny_pure ?_)
      refine wpAny_bind (PySem.W.kdu_collect (A := X.A.in1) (KdlSrc.rawDict hs) (I2.ok.hd hc) g1 (by omega) fun h' tk acc hk' hacc => ?_)
      have hal : acc.toList.length = (kvs.map (·.1)).length := by rw [Array.length_toList, hacc.1, g2, List.length_map]
      have I3 : Inv X pins σ W.H { s2 with heap := h', toks := tk } := I2.kept hk'
      obtain ⟨vs, k1, k2⟩ := is_row (K := X.K) (W := W) hal fun j u e => by
        obtain ⟨hi, rfl⟩ := hacc.2 j u (by rw [← Array.getElem?_toList]; exact e)
        obtain ⟨p, z1, z2, _⟩ := g3 j hi
        exact ⟨p.1, by rw [List.getElem?_map, z1]; rfl, z2⟩
      refine wpAny_bind (wpAny_newList ?_ (by rw [hal]; exact hlen))
      have hoL : (h'.push (seqObj "list" acc.toList.toArray 0)).get? h'.objs.size = some (seqObj "list" acc.toList.toArray 0) := Heap.get?_push_size _ rfl
      show wpAny _ _ _ _ _ { s2 with heap := h'.push (seqObj "list" acc.toList.toArray 0), toks := tk }
      have e0 := is_each k1 k2
      have up : ∀ {g : Heap}, PySem.W.KeepsBut h'.objs.size (h'.push (seqObj "list" acc.toList.toArray 0)) g → ∀ b o, h'.get? b = some o → g.get? b = some o := fun {g} kp b o q => kp b o (Nat.ne_of_lt (Heap.lt_size q)) (Heap.get?_push_of_some _ q)
      refine wpAny_bind (wpAny_holding (PySem.W.list_sort_key_data (A := X.A.in1) (s := { s2 with heap := h'.push (seqObj "list" acc.toList.toArray 0), toks := tk }) (vs := acc.toList) (b := false) (R := fun u d => Is X.K W d u) (fun b => ordK (kf b)) hoL e0 hall hsrt hlen hun (PyProof.Rows.ksk_l1 _ _) (PyProof.Rows.ksk_t1 _ _)
        (fun v x hR hx h tk2 kp => KL.turn pins σ W s2 f c' pm ctv x v h tk2 I2 hf hcr (okd x hx) hR fun b o q => up kp b o (hk' b o q)) fun out cc h'' tk'' kp hat hol eo => ?_))
      rw [hle] at eo
      obtain ⟨ws, w1, w2⟩ := each_is eo
      refine wpAny_pure ⟨_, rfl, .ref h'.objs.size, upd W.H h'.objs.size (.lst ws), I3.laid (t' := tk'') (up kp) (Nat.le_refl _)
          (show ObjOk X.prog X.w _ _ _ (.lst ws) from ⟨by rw [← w1.length, List.length_mergeSort]; exact hlen, _, cc, w2, hat⟩), rfl, newL_ok he2 ok2 w1 (I3.hok.fresh (Nat.le_refl _)) q2⟩
    · obtain ⟨a, vs, rfl, h1, h2⟩ := readOf_ok ok2 e2 r2
      obtain rfl : u = .ref a := ru
      obtain ⟨its, rv, hl, _⟩ := I2.list h1
      have e0 := is_each h2 rv
      refine PySem.W.sorted_key_data (s := s2) (vs := its) (bs := ks) (b := false) (R := fun u d => Is X.K W d u) (fun b => ordK (kf b)) (let ⟨o, n, z1, z2, _, z3⟩ := hl; ⟨o, z1, z2, n, z3⟩) e0 hall hsrt hlen hun (PyProof.Rows.ksk_s1 _ _) (fun _ => PyProof.Rows.ksk_l1 _ _) (fun _ => PyProof.Rows.ksk_t1 _ _)
        (fun v x hR hx h tk kp => KL.turn pins σ W s2 f c' pm ctv x v h tk I2 hf hcr (okd x hx) hR kp) fun out cc h' tk kp hfr2 hat hol eo => ?_
      rw [hle] at eo
      obtain ⟨ws, w1, w2⟩ := each_is eo
      exact ⟨.ref (s2.heap.objs.size + 1), upd W.H (s2.heap.objs.size + 1) (.lst ws), I2.laid (t' := tk) kp (Nat.le_succ _)
          (show ObjOk X.prog X.w _ _ _ (.lst ws) from ⟨by rw [← w1.length, List.length_mergeSort]; exact hlen, out, cc, w2, hat⟩), rfl, newL_ok he2 ok2 w1 (I2.hok.fresh (Nat.le_succ _)) q2⟩
  · cases he'⟩
end
end Ev
end L2

namespace L2
namespace Ev
open PyProof.Rows PySem.Spec PySem L2
variable [Tb]
open PySem.W (KeyPure kla_obj kla_fn)
/-! ### the lambdas x: (len(x), x) and x: (x[0] + x[1], x) -/
def kfLen : D → D
  | .str z => .tup [.int z.length, .str z]
  | d => d
def okLen : D → Bool
  | .str z => decide (z.length ≤ 1000000)
  | _ => false
def kfSum : D → D
  | .tup [.int m, .int n] => .tup [.int (m + n), .tup [.int m, .int n]]
  | d => d
def okSum : D → Bool
  | .tup [.int _, .int _] => true
  | _ => false
/-- what is asked of a lambda's shape -/
structure LamOne (params : Arguments) (body : Expr) (scope : Scope) (a : Str) : Prop where
  kind : scope.kind = .function
  co : scope.isCoroutine = false
  gen : scope.isGenerator = false
  bind : ∀ (q : Str) (pm cv ctv v : Value), bindArgs (kla_fn "<lambda>" q params body scope [] pm cv ctv) ⟨[v], []⟩ = pure [(a, v)]
  loc : scope.names.lookup a = some .local
  noc : ∀ x ∈ scope.names, x.2 ≠ .cell
  nd : (a == ("__debug__" : Str)) = false
section
variable {X : Cx} {params : Arguments} {scope : Scope} {a : Str} {k : Nat} {p1 p2 p3 p4 p5 p6 p7 p8 p9 : Pos} {j j2 j3 : Nat}
theorem keyL_len (hr : Room k X.A) (hm : X.mg "len" = none) (hg : scope.names.lookup ("len" : Str) = some NameKind.globalImplicit) (S : LamOne params (.Tuple [.Call (.Name "len" p1) [.Name a p2] [] p3, .Name a p4] j p5) scope a) : KeyL X params (.Tuple [.Call (.Name "len" p1) [.Name a p2] [] p3, .Name a p4] j p5) scope kfLen okLen := ⟨by
  intro pins σ W s f c' pm ctv d v h tk I hf hcr hok hI kp
  cases d with
  | str z =>
    obtain ⟨u, h1, h2⟩ := hI
    obtain rfl : u = V.str z := h1
    obtain ⟨t, rfl⟩ := h2
    have hz : z.length ≤ 1000000 := of_decide_eq_true hok
    refine lam_run (s := { s with heap := h, toks := tk }) (A := X.A.in1.in1) (by have := hr.dp; show X.A.depth < _; omega) (kp _ _ hf) S.co S.gen S.kind (hcr.keeps kp) (S.bind _ _ _ _ _) S.loc S.noc (I.nolimit.keeps kp) fun h' tk' L kp' hn => ?_
    obtain ⟨mb, b1, b2⟩ := I.mod.blt
    have all : ∀ b o, X.base.get? b = some o → h'.get? b = some o := fun b o e => kp' b o (kp b o (I.bk b o e))
    exact body_len (s := { s with heap := h, toks := tk }) S.kind S.loc hg hn (I.mod.glob.keeps all) hm (b1.keeps all) ((b2 "len" (by decide)).trans (by first | rfl | decide +kernel)) (by omega) kp' S.nd
  | _ => cases hok⟩
theorem keyL_sum (hr : Room k X.A) (S : LamOne params (.Tuple [.BinOp (.Subscript (.Name a p1) (.Constant (.int 0) j p2) p3) .Add (.Subscript (.Name a p4) (.Constant (.int 1) j2 p5) p6) p7, .Name a p8] j3 p9) scope a) :
    KeyL X params (.Tuple [.BinOp (.Subscript (.Name a p1) (.Constant (.int 0) j p2) p3) .Add (.Subscript (.Name a p4) (.Constant (.int 1) j2 p5) p6) p7, .Name a p8] j3 p9) scope kfSum okSum := ⟨by
  intro pins σ W s f c' pm ctv d v h tk I hf hcr hok hI kp
  unfold okSum at hok
  split at hok
  · rename_i m n
    obtain ⟨u, ⟨r, vs, rfl, h1, h2⟩, hu⟩ := hI
    obtain rfl : v = Value.ref r := hu
    obtain ⟨x1, r1, rfl, g1, x2, r2, rfl, g2, g3⟩ := h2
    obtain rfl : x1 = V.int m := g1
    obtain rfl : x2 = V.int n := g2
    obtain rfl : r2 = [] := g3
    obtain ⟨its, rv, ht, _⟩ := I.tuple h1
    obtain ⟨w1, w2, rfl, e1, e2⟩ := vals2 rv
    obtain ⟨t, rfl⟩ := e1
    obtain ⟨t2, rfl⟩ := e2
    refine lam_run (s := { s with heap := h, toks := tk }) (A := X.A.in1.in1) (by have := hr.dp; show X.A.depth < _; omega) (kp _ _ hf) S.co S.gen S.kind (hcr.keeps kp) (S.bind _ _ _ _ _) S.loc S.noc (I.nolimit.keeps kp) fun h' tk' L kp' hn => ?_
    exact body_sum (s := { s with heap := h, toks := tk }) S.kind S.loc hn (PyProof.Rows.IsTup.keeps ht kp) rfl kp' S.nd
  · cases hok⟩
end
end Ev
end L2

namespace L2
namespace Ev
open PyProof.Rows PySem.Spec PySem L2
/-! ### the end, with tables -/
section
variable [Tb]
variable {P : Program} {w : World} {K : PySem.W.Frag} {mg : Str → Option Value} {base : Heap}
/-- a def by its body, its code object known -/
theorem fn_evC {x qual : Str} {st : Stmt} {f : Addr} {fd : FuncData} {N ps : List Str} {k : Nat} {g : MS} (F : Fun K x qual st f fd) (S : FnScope N ps (defScope st))
    (hb : ∀ (A : Around) (outer : List Env) (s : Shared) (H : Hp) (E : XK), Room k (A.deeper (envOfC qual (defScope st) s.heap.objs.size f fd.code)) →
      EvB ((cxOf CX0 P w K mg base N qual (defScope st) f fd.code A outer s H E).nox) (defBody st) g) : FnOk P w K mg base CX0 (k + 1) f fd ps (spD ⟨P, w, K⟩ ps.length (runDef N.length g)) := by
  obtain ⟨oc, od, kV, doc, pm, an, cdv, ct, osl, rfl, lk, hcd⟩ := F.ex
  refine fn_of lk hcd S (fun vs H Q E h => ?_) fun A outer s H vs Q E hr h => ?_
  · obtain ⟨W, ds, d, S', rfl, ok, r, hl, _, _⟩ := h
    rw [← r.length]; exact hl
  · obtain ⟨W, ds, d, S', rfl, ok, r, hl, he, q⟩ := h
    refine ⟨_, (hb A outer s W.H E hr).nox, ?_⟩
    unfold runDef at he
    rw [Option.bind_eq_some_iff] at he
    obtain ⟨rs, e1, he⟩ := he
    refine ⟨W, _, rs, rfl, ok, rσ_start N r, e1, ?_⟩
    cases rs with
    | nx ρ S1 => cases he; exact fun W' σ' st hρ => q W' .non st rfl
    | rt d S1 => cases he; exact q
    | bk ρ S1 => cases he
    | ct ρ S1 => cases he
end
/-- what stands in the head of a code object that is known -/
theorem headIn {K : PySem.W.Frag} {c P : Addr} (h : PySem.W.codeHdIn K c P = true) : ∃ (e : Value) (dd : Option Addr) (vs : Array Value) (sl : Array (Option Value)), K.lookup c = some ⟨e, dd, .fields vs, sl⟩ ∧ vs[11]? = some (.ref P) := by
  unfold PySem.W.codeHdIn at h
  split at h
  · rename_i vs _ hk
    simp only [Bool.and_eq_true] at h
    obtain ⟨⟨⟨⟨⟨h1, _⟩, _⟩, _⟩, _⟩, _⟩ := h
    split at h1
    · rename_i P' h11
      rw [beq_iff_eq.mp h1] at h11
      exact ⟨_, _, vs, _, hk, h11⟩
    · cases h1
  · cases h
def headB (e : Value) (vs : Array Value) (c P : Addr) : Bool := (match e with | .type t => t == "code" | _ => false) && ((match (vs[11]? : Option Value) with | some (.ref P') => P' == P | _ => false) &&
  (match vs.getD 18 .none with | .str _ _ => true | _ => false) && (match vs.getD 7 .none with | .int _ _ => true | _ => false) && (match vs.getD 9 .none with | .bool _ => true | _ => false) && (match vs.getD 10 .none with | .int _ _ => true | _ => false) && c != P)
theorem head_of {K : PySem.W.Frag} {c P : Addr} {e : Value} {dd : Option Addr} {vs : Array Value} {sl : Array (Option Value)} (g : K.lookup c = some ⟨e, dd, .fields vs, sl⟩) (h : headB e vs c P = true) : PySem.W.codeHdIn K c P = true := by
  unfold headB at h
  rw [Bool.and_eq_true] at h
  obtain ⟨h1, h2⟩ := h
  cases e with
  | type t =>
    have h1 : (t == "code") = true := h1
    rw [beq_iff_eq] at h1
    subst h1
    unfold PySem.W.codeHdIn
    rw [g]
    exact h2
  | _ => cases h1
open LamX in
/-- the end of a law: the tables of all its defs are empty at the start -/
theorem walk_ofTb {l : PySem.W.OpenLaw} {n k : Nat} {q : Program} {loose : List Str} {XP : (Str → Option Value) → Heap → Prop} {YP : World → Heap → Prop} {d : DefRec} {K : Params → PySem.W.Frag} {CX : World → CXT} {x : Str}
    (hn : l.most = some n) (hn2 : n ≤ sizeLine) (hdf : d.params.defaults = []) (hr : Room k callerA) (hY : ∀ (w : World) (h : Heap), YP w h → (K w.params).In h)
    (F : ∀ (w : World) (mg : Str → Option Value) (fa : Addr) (h : Heap), (K w.params).In h → h.Ns mainGlobals mg → mg d.name = some (.ref fa) → (∀ (y : Str) (f : Addr), ((recsOf q).any fun e => e.name == y) = true → mg y = some (.ref f) → OwnTab (K w.params) f h) → LawAtS l w (K w.params) (CX w) k n x mg fa h)
    (hCX : ∀ (w : World) (H : Hp) (s : Shared) (e : Value) (s' : Shared), CX w [] H s (fun _ _ _ => False) e s' → False) :
    PySem.W.WalkO q loose XP YP l.row.toRowW d [] (fun f vs => PySem.call f vs) := by
  refine Att.attach_callB hn hdf fun w s0 s1 mg mb fa o pm cd doc a vs ns G Y ho hd hcd hmg hobj hints hlen hbits hg => ?_
  have KX := hY w _ Y
  have own : ∀ (y : Str) (f : Addr), ((recsOf q).any fun e => e.name == y) = true → mg y = some (.ref f) → OwnTab (K w.params) f s1.heap := by
    intro y f hy hf c P o2 fd2 e dd vs2 sl k1 k2 k3 k4 k5
    obtain ⟨r, hr1, hr2⟩ := List.any_eq_true.mp hy
    obtain ⟨a', o', fd', c', P', h1, h2, h3, h4, _, ⟨oc, vc, e1, _, e3, e4⟩, hP⟩ := G.T.tab r hr1
    rw [beq_iff_eq.mp hr2, hf] at h1
    cases h1
    rw [KX _ _ k1] at h2
    cases h2
    rw [k2] at h3
    cases h3
    rw [k3] at h4
    cases h4
    rw [KX _ _ k4] at e1
    cases e1
    cases e3
    rw [k5] at e4
    cases e4
    exact hP
  obtain ⟨fd, cs, sp, hT, nT, C, hb, hsp, hF⟩ := F w mg fa _ KX G.T.g hmg own
  exact law_callTs KX G.T.g G.T.b G.T.builtins G.T.nolimit hg hT nT C G.T.bmain hobj hints (Nat.le_trans hlen hn2) hr hF hb (fun H hH hS => hsp H a ns hlen hbits hH hS) fun H e s' => hCX w H s1 e s'
end Ev
end L2

namespace L2
namespace Ev
open PyProof.Rows PySem.Spec PySem L2
variable [Tb]
open Enc (e)
/-! ### words -/
def letB : Bool → Str
  | true => "a"
  | false => "b"
def ofB : List Bool → Str
  | [] => ""
  | b :: l => letB b ++ ofB l
theorem empty_app (x : Str) : ("" : Str) ++ x = x := Str.append_left_empty rfl
theorem app_empty (x : Str) : x ++ ("" : Str) = x := Str.append_right_empty rfl
theorem ofB_app : ∀ l l' : List Bool, ofB (l ++ l') = ofB l ++ ofB l'
  | [], l' => (empty_app _).symm
  | b :: l, l' => by rw [List.cons_append, ofB, ofB, ofB_app l l', PySem.Str.append_assoc]
theorem ofB_len : ∀ l : List Bool, (ofB l).length = l.length
  | [] => rfl
  | b :: l => by
    have : (letB b).length = 1 := by cases b <;> rfl
    rw [ofB, PySem.Str.length_append, ofB_len l, List.length_cons]; omega
def boolsN : Nat → List (List Bool)
  | 0 => [[]]
  | n + 1 => (boolsN n).flatMap fun l => [true :: l, false :: l]
theorem mem_boolsN : ∀ {n : Nat} {l : List Bool}, l ∈ boolsN n ↔ l.length = n
  | 0, l => by simp [boolsN]
  | n + 1, l => by
    rw [boolsN, List.mem_flatMap]
    constructor
    · rintro ⟨k, hk, hl⟩
      have := mem_boolsN.mp hk
      rcases List.mem_cons.mp hl with rfl | hl
      · rw [List.length_cons, this]
      · rw [List.mem_singleton.mp hl, List.length_cons, this]
    · intro h
      cases l with
      | nil => cases h
      | cons b l =>
        refine ⟨l, mem_boolsN.mpr (by simpa using h), ?_⟩
        cases b <;> simp
def UW (m : Nat) : List Str := (List.range (m + 1)).flatMap fun n => (boolsN n).map ofB
theorem mem_UW {m : Nat} {x : Str} : x ∈ UW m ↔ ∃ l : List Bool, l.length ≤ m ∧ x = ofB l := by
  unfold UW
  rw [List.mem_flatMap]
  constructor
  · rintro ⟨n, hn, hx⟩
    obtain ⟨l, hl, rfl⟩ := List.mem_map.mp hx
    have := List.mem_range.mp hn
    exact ⟨l, by rw [mem_boolsN.mp hl]; omega, rfl⟩
  · rintro ⟨l, hl, rfl⟩
    exact ⟨l.length, List.mem_range.mpr (by omega), List.mem_map.mpr ⟨l, mem_boolsN.mpr rfl, rfl⟩⟩
theorem UW_len8 : (UW 8).length = 511 := by decide +kernel
theorem UW_le {f : List Str} {m : Nat} (hm : m ≤ 8) (h1 : f.Nodup) (h2 : ∀ x ∈ f, x ∈ UW m) : f.length ≤ 511 := by
  rw [← UW_len8]
  refine nodup_le h1 fun x hx => ?_
  obtain ⟨l, hl, rfl⟩ := mem_UW.mp (h2 x hx)
  exact mem_UW.mpr ⟨l, by omega, rfl⟩
theorem UW_small {m : Nat} {x : Str} (h : x ∈ UW m) : x.length ≤ m := by
  obtain ⟨l, hl, rfl⟩ := mem_UW.mp h
  rw [ofB_len]; exact hl
def joinS (a o : List Str) (m : Int) : List Str := (a.flatMap fun x => (o.map fun y => x ++ y).filter fun w => decide ((w.length : Int) ≤ m)).foldl ins []
def someW (K : List (List Str)) : Part → List Str
  | .a => ["a"]
  | .b => ["b"]
  | .nm i => K.getD i.toNat []
def joinL (m : Int) (K : List (List Str)) (s : Side) (f : List Str) : List Str := s.foldl (fun f p => joinS f (someW K p) m) f
def joinF (m : Int) (s : Side) (K : List (List Str)) : List Str := joinL m K s [""]
theorem mem_joinS {a o : List Str} {m : Int} {w : Str} : w ∈ joinS a o m ↔ (∃ x, x ∈ a ∧ ∃ y, y ∈ o ∧ w = x ++ y) ∧ (w.length : Int) ≤ m := by
  unfold joinS
  rw [mem_foldl_ins']
  simp only [List.not_mem_nil, false_or, List.mem_flatMap, List.mem_filter, List.mem_map, decide_eq_true_iff]
  constructor
  · rintro ⟨x, hx, ⟨y, hy, rfl⟩, hm⟩; exact ⟨⟨x, hx, y, hy, rfl⟩, hm⟩
  · rintro ⟨⟨x, hx, y, hy, rfl⟩, hm⟩; exact ⟨x, hx, ⟨y, hy, rfl⟩, hm⟩
/-- words of letters -/
def isW (x : Str) : Prop := ∃ l : List Bool, x = ofB l
theorem isW_app {x y : Str} (a : isW x) (b : isW y) : isW (x ++ y) := by
  obtain ⟨l, rfl⟩ := a
  obtain ⟨k, rfl⟩ := b
  exact ⟨l ++ k, (ofB_app l k).symm⟩
theorem mem_UW' {m : Int} (h0 : 0 ≤ m) {x : Str} : x ∈ UW m.toNat ↔ isW x ∧ (x.length : Int) ≤ m := by
  rw [mem_UW]
  constructor
  · rintro ⟨l, hl, rfl⟩; exact ⟨⟨l, rfl⟩, by rw [ofB_len]; omega⟩
  · rintro ⟨⟨l, rfl⟩, h⟩; rw [ofB_len] at h; exact ⟨l, by omega, rfl⟩
theorem someW_isW {m : Int} (h0 : 0 ≤ m) {K : List (List Str)} (hK : InK (UW m.toNat) K) (p : Part) : ∀ y ∈ someW K p, isW y := by
  intro y hy
  cases p with
  | a => rw [List.mem_singleton.mp hy]; exact ⟨[true], (app_empty _).symm⟩
  | b => rw [List.mem_singleton.mp hy]; exact ⟨[false], (app_empty _).symm⟩
  | nm i => exact ((mem_UW' h0).mp ((hK.get _).2 y hy)).1
theorem joinS_in {m : Int} (h0 : 0 ≤ m) {K : List (List Str)} (hK : InK (UW m.toNat) K) (p : Part) {f : List Str} (hf : ∀ x ∈ f, x ∈ UW m.toNat) : ∀ x ∈ joinS f (someW K p) m, x ∈ UW m.toNat := fun x hx => by
  obtain ⟨⟨y, hy, z, hz, rfl⟩, hm⟩ := mem_joinS.mp hx
  exact (mem_UW' h0).mpr ⟨isW_app ((mem_UW' h0).mp (hf y hy)).1 (someW_isW h0 hK p z hz), hm⟩
theorem joinL_in {m : Int} (h0 : 0 ≤ m) {K : List (List Str)} (hK : InK (UW m.toNat) K) : ∀ (s : Side) {f : List Str}, (∀ x ∈ f, x ∈ UW m.toNat) → ∀ x ∈ joinL m K s f, x ∈ UW m.toNat
  | [], _, hf => hf
  | p :: s, f, hf => joinL_in h0 hK s (joinS_in h0 hK p hf)
theorem nil_in {m : Int} (h0 : 0 ≤ m) : ∀ x ∈ [("" : Str)], x ∈ UW m.toNat := fun x hx => by
  rw [List.mem_singleton.mp hx]; exact (mem_UW' h0).mpr ⟨⟨[], rfl⟩, h0⟩
theorem joinF_in {m : Int} (h0 : 0 ≤ m) {K : List (List Str)} (hK : InK (UW m.toNat) K) (s : Side) : ∀ x ∈ joinF m s K, x ∈ UW m.toNat := joinL_in h0 hK s (nil_in h0)
theorem words_exist {x : Gram × Int} (h0 : 0 ≤ x.2) : ∃ R, Rounds (joinF x.2) x.1 (-1) (List.replicate x.1.length []) R :=
  rounds_exist (P := fun K => K.length = x.1.length ∧ InK (UW x.2.toNat) K) (B := x.1.length * (UW x.2.toNat).length) (fun _ _ s K _ _ h => ⟨by rw [putS_len]; exact h.1, putS_in h.2 (joinF_in h0 h.2 s)⟩) (fun K h => by have := total_le h.2; rw [h.1] at this; exact this) _ _ _ ⟨by simp, inK_new⟩ (by omega) (Nat.lt_succ_self _)
noncomputable def wordR (x : Gram × Int) : List (List Str) := open Classical in if h : ∃ R, Rounds (joinF x.2) x.1 (-1) (List.replicate x.1.length []) R then h.choose else []
theorem wordR_rounds {x : Gram × Int} (h0 : 0 ≤ x.2) : Rounds (joinF x.2) x.1 (-1) (List.replicate x.1.length []) (wordR x) := by
  have h := words_exist h0
  unfold wordR
  rw [dif_pos h]; exact h.choose_spec
theorem wordR_in {x : Gram × Int} (h0 : 0 ≤ x.2) : InK (UW x.2.toNat) (wordR x) := rounds_keep (P := fun K => InK (UW x.2.toNat) K) (fun _ _ s K _ _ h => putS_in h (joinF_in h0 h s)) (wordR_rounds h0) inK_new
/-- in the order told -/
def sortW (l : List Str) : List D := (l.map D.str).mergeSort (leK kfLen)
noncomputable def wordsL (x : Gram × Int) : List D := sortW ((wordR x).getD 0 [])
def okW (x : Gram × Int) : Prop := okC x ∧ x.2 ≤ 8
theorem sortOk_words (l : List Str) : sortOk ((l.map D.str).map kfLen) = true := by
  have e : ∀ z : Str, ordK (kfLen (.str z)) = .tuple [.int z.length, .str z] := fun z => by simp [kfLen, ordK, py0, py0s]
  rw [List.map_map]
  unfold sortOk
  simp only [Bool.and_eq_true, Bool.or_eq_true, List.all_eq_true, List.mem_map, forall_exists_index, and_imp, forall_apply_eq_imp_iff₂, decide_eq_true_eq, Function.comp]
  refine ⟨⟨fun p _ => ⟨by simp [kfLen, py0, py0s], by rw [e]; simp [PyData.depth, PyData.depthAll]⟩, fun p _ q _ => by rw [e, e]; simp [PySem.W.alike, PySem.W.alikeAll]⟩, .inl fun p _ => rfl⟩
theorem sortK_words {S : Store} {n : Nat} {l : List Str} (h : S[n]? = some (.dct (stD l))) (hl : l.length ≤ 1000000) (hz : ∀ x ∈ l, x.length ≤ 1000000) : sortK false kfLen okLen (.ref n) S = some (.lst (sortW l), S) := by
  unfold sortK itemsOf
  have e : dctOf S (.ref n) = some (stD l) := by simp only [dctOf, h]
  have e2 : (stD l).map (·.1) = l.map D.str := by unfold stD; rw [List.map_map]; rfl
  simp only [e, Option.bind_some, e2]
  have ha : (l.map D.str).all okLen = true := by
    rw [List.all_eq_true]
    intro d hd
    obtain ⟨x, hx, rfl⟩ := List.mem_map.mp hd
    exact decide_eq_true (hz x hx)
  rw [if_pos ⟨ha, sortOk_words l⟩, newL_f (by rw [List.length_mergeSort, List.length_map]; exact size_le hl)]
  rfl
end Ev
end L2

namespace L2
namespace Ev
open PyProof.Rows PySem.Spec PySem L2
variable [Tb]
open Enc (e)
/-- the places of the words known, what may stand there -/
structure OkJ (S : Store) (s : Side) (rs : List Nat) (K : List (List Str)) (m : Int) : Prop where
  at_ : KnAt S rs K
  m0 : 0 ≤ m
  m8 : m ≤ 8
  ink : InK (UW m.toNat) K
  nm : ∀ i, Part.nm i ∈ s → 0 ≤ i ∧ i < K.length
noncomputable def p_joined : List D → M D := fun ds S => open Classical in if h : ∃ x : Side × List Nat × List (List Str) × Int, ds = [sideD x.1, .lst (x.2.1.map .ref), .int x.2.2.2] ∧ OkJ S x.1 x.2.1 x.2.2.1 x.2.2.2 then
  some (.lst ((joinF h.choose.2.2.2 h.choose.1 h.choose.2.2.1).map .str), S) else none
theorem joined_r {s : Side} {rs : List Nat} {K : List (List Str)} {m : Int} {S : Store} (h : OkJ S s rs K m) : p_joined [sideD s, .lst (rs.map .ref), .int m] S = some (.lst ((joinF m s K).map .str), S) := by
  unfold p_joined
  have hx : ∃ x : Side × List Nat × List (List Str) × Int, [sideD s, D.lst (rs.map .ref), D.int m] = [sideD x.1, .lst (x.2.1.map .ref), .int x.2.2.2] ∧ OkJ S x.1 x.2.1 x.2.2.1 x.2.2.2 := ⟨(s, rs, K, m), rfl, h⟩
  rw [dif_pos hx]
  obtain ⟨h1, h2⟩ := hx.choose_spec
  generalize hx.choose = x at h1 h2
  obtain ⟨s', rs', K', m'⟩ := x
  simp only [List.cons.injEq, D.lst.injEq, D.int.injEq, and_true] at h1
  obtain ⟨e1, e2, e3⟩ := h1
  have e1 := sideD_inj _ _ e1
  have e2 := map_inj (fun a b h => D.ref.inj h) e2
  subst e1; subst e2; subst e3
  rw [knAt_uniq h.at_ h2.at_]
/-- joined: 0 side, 1 known, 2 most, 3 found, 4 part, 5 some, 6 longer, 7 one, 8 other -/
noncomputable def l1_joined : MS := (sIf (tOf (eBin opLe (eBin (opAdd false) (eFn fLen (aCons (eV 7) aNil)) (eFn fLen (aCons (eV 8) aNil))) (eV 2))) (sPut (eV 6) (eBin (opAdd false) (eV 7) (eV 8)) (eC (.bl true))) sNx)
noncomputable def l2_joined : MS := (sFor (iSeq (eV 5)) (gN 8) l1_joined)
noncomputable def l3_joined : MS := (sSeq (sAsg (eLst false (aCons (eV 4) aNil)) (gN 5)) (sSeq (sIf (tNotD (tOf (eCall 1 p_is_letter (aCons (eV 4) aNil)))) (sAsg (eFn (fListA false) (aCons (eBin opSub2 (eV 1) (eV 4)) aNil)) (gN 5)) sNx) (sSeq (sAsg eDnew (gN 6)) (sSeq (sFor (iSeq (eV 3)) (gN 7) l2_joined) (sAsg (eFn (fListA false) (aCons (eV 6) aNil)) (gN 3))))))
noncomputable def b_joined : MS := (sSeq (sAsg (eLst false (aCons (eC (.str "")) aNil)) (gN 3)) (sSeq (sFor (iSeq (eV 0)) (gN 4) l3_joined) (sRet (eV 3))))
noncomputable def g_joined : List D → M D := runDef 9 b_joined
theorem str_size {z : Str} (h : z.length ≤ 1000) : z.length ≤ sizeLine := by rw [sizeLine_eq]; omega
theorem len_str_r {z : Str} (h : z.length ≤ 1000) (S : Store) : fLen [.str z] S = some (.int z.length, S) := by
  unfold fLen
  exact if_pos (str_size h)
/-- the innermost loop -/
theorem join_in {x0 x1 x3 x4 x5 : Option D} {m : Int} {q : Nat} {a : Str} (ha : a.length ≤ 1000) : ∀ (o acc : List Str) (x8 : Option D) (T : Store), (∀ y ∈ o, y.length ≤ 1000) → T[q]? = some (.dct (stD acc)) → (((o.map fun y => a ++ y).filter fun w => decide ((w.length : Int) ≤ m)).foldl ins acc).length ≤ 1000000 →
    ∃ x8', forL gYes (gN 8) l1_joined (o.map .str) [x0, x1, some (.int m), x3, x4, x5, some (.ref q), some (.str a), x8] T = some (.nx [x0, x1, some (.int m), x3, x4, x5, some (.ref q), some (.str a), x8'] (T.set q (.dct (stD (((o.map fun y => a ++ y).filter fun w => decide ((w.length : Int) ≤ m)).foldl ins acc)))))
  | [], acc, x8, T, _, h, _ => ⟨x8, by rw [List.map_nil, List.map_nil, forL, if_pos (gYes_r (S := T)), List.filter_nil, List.foldl_nil, set_same h]⟩
  | b :: o, acc, x8, T, ho, h, hl => by
    have hb := ho b List.mem_cons_self
    have ho' : ∀ y ∈ o, y.length ≤ 1000 := fun y hy => ho y (List.mem_cons_of_mem _ hy)
    have l1 := len_str_r ha T
    have l2 := len_str_r hb T
    have hlen : ((a ++ b).length : Int) = a.length + b.length := by rw [PySem.Str.length_append]; omega
    have hadd : opAdd false (.str a) (.str b) T = some (.str (a ++ b), T) := opAdd_str (by rw [sizeLine_eq]; omega)
    rw [List.map_cons, List.filter_cons] at hl
    by_cases hm : ((a ++ b).length : Int) ≤ m
    · rw [if_pos (decide_eq_true hm), List.foldl_cons] at hl
      have h1 := foldl_ins_ge ((o.map fun y => a ++ y).filter fun w => decide ((w.length : Int) ≤ m)) (ins acc (a ++ b))
      have h2 : acc.length ≤ (ins acc (a ++ b)).length := by unfold ins; split <;> simp
      have hput : stPut (.ref q) (.str (a ++ b)) (.bl true) T = some (T.set q (.dct (stD (ins acc (a ++ b))))) := stPut_st (α := Str) (S := T) (n := q) (l := acc) (a ++ b) h (by omega)
      obtain ⟨x8', ih⟩ := join_in (x0 := x0) (x1 := x1) (x3 := x3) (x4 := x4) (x5 := x5) ha o (ins acc (a ++ b)) (some (.str b)) (T.set q (.dct (stD (ins acc (a ++ b))))) ho' (set_get h) hl
      refine ⟨x8', ?_⟩
      rw [set_set'] at ih
      rw [List.map_cons, List.map_cons, List.filter_cons, if_pos (decide_eq_true hm), List.foldl_cons, ← ih]
      rw [hlen] at hm
      simp only [forL, gYes_r, if_true, gN, Option.bind_some, l1_joined]
      simp [l1, l2, hadd, hm, hput]
    · rw [if_neg (by simpa using hm)] at hl
      obtain ⟨x8', ih⟩ := join_in (x0 := x0) (x1 := x1) (x3 := x3) (x4 := x4) (x5 := x5) ha o acc (some (.str b)) T ho' h hl
      refine ⟨x8', ?_⟩
      rw [List.map_cons, List.map_cons, List.filter_cons, if_neg (by simpa using hm), ← ih]
      rw [hlen] at hm
      simp only [forL, gYes_r, if_true, gN, Option.bind_some, l1_joined]
      simp [l1, l2, hadd, hm]
theorem join_mid {x0 x1 x3 x4 : Option D} {m : Int} {q : Nat} {o : List Str} (ho : ∀ y ∈ o, y.length ≤ 1000) : ∀ (f acc : List Str) (x7 x8 : Option D) (T : Store), (∀ y ∈ f, y.length ≤ 1000) → T[q]? = some (.dct (stD acc)) → ((f.flatMap fun x => (o.map fun y => x ++ y).filter fun w => decide ((w.length : Int) ≤ m)).foldl ins acc).length ≤ 1000000 →
    ∃ x7' x8', forL gYes (gN 7) l2_joined (f.map .str) [x0, x1, some (.int m), x3, x4, some (.lst (o.map .str)), some (.ref q), x7, x8] T = some (.nx [x0, x1, some (.int m), x3, x4, some (.lst (o.map .str)), some (.ref q), x7', x8'] (T.set q (.dct (stD ((f.flatMap fun x => (o.map fun y => x ++ y).filter fun w => decide ((w.length : Int) ≤ m)).foldl ins acc)))))
  | [], acc, x7, x8, T, _, h, _ => ⟨x7, x8, by rw [List.map_nil, forL, if_pos (gYes_r (S := T)), List.flatMap_nil, List.foldl_nil, set_same h]⟩
  | a :: f, acc, x7, x8, T, hf, h, hl => by
    rw [List.flatMap_cons, foldl_ins_app] at hl
    have h1 := foldl_ins_ge (f.flatMap fun x => (o.map fun y => x ++ y).filter fun w => decide ((w.length : Int) ≤ m)) (((o.map fun y => a ++ y).filter fun w => decide ((w.length : Int) ≤ m)).foldl ins acc)
    obtain ⟨x8', e1⟩ := join_in (x0 := x0) (x1 := x1) (x3 := x3) (x4 := x4) (x5 := some (.lst (o.map .str))) (m := m) (hf a List.mem_cons_self) o acc x8 T ho h (by omega)
    obtain ⟨x7', x8'', ih⟩ := join_mid (x0 := x0) (x1 := x1) (x3 := x3) (x4 := x4) ho f _ (some (.str a)) x8' (T.set q (.dct (stD (((o.map fun y => a ++ y).filter fun w => decide ((w.length : Int) ≤ m)).foldl ins acc)))) (fun y hy => hf y (List.mem_cons_of_mem _ hy)) (set_get h) hl
    refine ⟨x7', x8'', ?_⟩
    rw [set_set'] at ih
    rw [List.flatMap_cons, foldl_ins_app, ← ih, List.map_cons]
    simp only [forL, gYes_r, if_true, gN, Option.bind_some, l2_joined]
    simp [e1]
theorem joinS_len {m : Int} (h0 : 0 ≤ m) (h8 : m ≤ 8) {K : List (List Str)} (hK : InK (UW m.toNat) K) (p : Part) {f : List Str} (hf : ∀ x ∈ f, x ∈ UW m.toNat) : (joinS f (someW K p) m).length ≤ 511 :=
  UW_le (by omega) (foldl_ins_nodup _ List.nodup_nil) (joinS_in h0 hK p hf)
theorem someW_small {m : Int} (h0 : 0 ≤ m) (h8 : m ≤ 8) {K : List (List Str)} (hK : InK (UW m.toNat) K) (p : Part) : ∀ y ∈ someW K p, y.length ≤ 1000 := by
  intro y hy
  cases p with
  | a => rw [List.mem_singleton.mp hy]; exact Nat.le_of_ble_eq_true rfl
  | b => rw [List.mem_singleton.mp hy]; exact Nat.le_of_ble_eq_true rfl
  | nm i => have := UW_small ((hK.get i.toNat).2 y hy); omega
theorem someW_len {m : Int} (h0 : 0 ≤ m) (h8 : m ≤ 8) {K : List (List Str)} (hK : InK (UW m.toNat) K) (p : Part) : (someW K p).length ≤ 511 := by
  cases p with
  | a => exact Nat.le_of_ble_eq_true rfl
  | b => exact Nat.le_of_ble_eq_true rfl
  | nm i => exact UW_le (by omega) (hK.get _).1 (hK.get _).2
/-- over the parts -/
theorem join_out {x0 : Option D} {rs : List Nat} {K : List (List Str)} {S : Store} {m : Int} (hK : KnAt S rs K) (h0 : 0 ≤ m) (h8 : m ≤ 8) (hU : InK (UW m.toNat) K) : ∀ (ps : Side) (f : List Str) (x4 x5 x6 x7 x8 : Option D) (J : Store), (∀ i, Part.nm i ∈ ps → 0 ≤ i ∧ i < K.length) → (∀ x ∈ f, x ∈ UW m.toNat) →
    ∃ x4' x5' x6' x7' x8' J', forL gYes (gN 4) l3_joined (ps.map partD) [x0, some (.lst (rs.map .ref)), some (.int m), some (.lst (f.map .str)), x4, x5, x6, x7, x8] (S ++ J) = some (.nx [x0, some (.lst (rs.map .ref)), some (.int m), some (.lst ((joinL m K ps f).map .str)), x4', x5', x6', x7', x8'] (S ++ J'))
  | [], f, x4, x5, x6, x7, x8, J, _, _ => ⟨x4, x5, x6, x7, x8, J, rfl⟩
  | p :: ps, f, x4, x5, x6, x7, x8, J, hn, hf => by
    have hsm := someW_small h0 h8 hU p
    have hsl := someW_len h0 h8 hU p
    have hjl := joinS_len h0 h8 hU p hf
    have hfs : ∀ y ∈ f, y.length ≤ 1000 := fun y hy => by have := UW_small (hf y hy); omega
    have hat : ((S ++ J) ++ [Cell.dct (stD ([] : List Str))])[(S ++ J).length]? = some (.dct (stD ([] : List Str))) := at_len
    obtain ⟨x7', x8', e1⟩ := join_mid (x0 := x0) (x1 := some (.lst (rs.map .ref))) (x3 := some (.lst (f.map .str))) (x4 := some (partD p)) (m := m) hsm f [] x7 x8 ((S ++ J) ++ [Cell.dct (stD ([] : List Str))]) hfs hat (by show (joinS f (someW K p) m).length ≤ _; omega)
    rw [set_len] at e1
    have e1 : forL gYes (gN 7) l2_joined (f.map .str) [x0, some (.lst (rs.map .ref)), some (.int m), some (.lst (f.map .str)), some (partD p), some (.lst ((someW K p).map .str)), some (.ref (S ++ J).length), x7, x8] ((S ++ J) ++ [Cell.dct (stD ([] : List Str))]) = some (.nx [x0, some (.lst (rs.map .ref)), some (.int m), some (.lst (f.map .str)), some (partD p), some (.lst ((someW K p).map .str)), some (.ref (S ++ J).length), x7', x8'] ((S ++ J) ++ [Cell.dct (stD (joinS f (someW K p) m))])) := e1
    have hS2 : ((S ++ J) ++ [Cell.dct (stD (joinS f (someW K p) m))])[(S ++ J).length]? = some (.dct (stD (joinS f (someW K p) m))) := at_len
    have hlist : fListA false [.ref (S ++ J).length] ((S ++ J) ++ [Cell.dct (stD (joinS f (someW K p) m))]) = some (.lst ((joinS f (someW K p) m).map .str), (S ++ J) ++ [Cell.dct (stD (joinS f (someW K p) m))]) := by
      rw [fListA_dct hS2]
      have hk : (stD (joinS f (someW K p) m)).map (·.1) = (joinS f (someW K p) m).map .str := by unfold stD; rw [List.map_map]; rfl
      rw [hk, newL_f (by rw [List.length_map]; exact size_le (by omega))]
    obtain ⟨x4', x5', x6', x7'', x8'', J', ih⟩ := join_out (x0 := x0) hK h0 h8 hU ps (joinS f (someW K p) m) (some (partD p)) (some (.lst ((someW K p).map .str))) (some (.ref (S ++ J).length)) x7' x8' (J ++ [Cell.dct (stD (joinS f (someW K p) m))]) (fun i hi => hn i (List.mem_cons_of_mem _ hi)) (joinS_in h0 hU p hf)
    refine ⟨x4', x5', x6', x7'', x8'', J', ?_⟩
    show forL gYes (gN 4) l3_joined (partD p :: ps.map partD) _ _ = _
    show _ = some (Res.nx [x0, some (.lst (rs.map .ref)), some (.int m), some (.lst ((joinL m K ps (joinS f (someW K p) m)).map .str)), x4', x5', x6', x7'', x8''] (S ++ J'))
    rw [← ih]
    have pick : ∃ xx, (sAsg (eLst false (aCons (eV 4) aNil)) (gN 5)) [x0, some (.lst (rs.map .ref)), some (.int m), some (.lst (f.map .str)), some (partD p), x5, x6, x7, x8] (S ++ J) = some (.nx [x0, some (.lst (rs.map .ref)), some (.int m), some (.lst (f.map .str)), some (partD p), xx, x6, x7, x8] (S ++ J)) ∧
        (sIf (tNotD (tOf (eCall 1 p_is_letter (aCons (eV 4) aNil)))) (sAsg (eFn (fListA false) (aCons (eBin opSub2 (eV 1) (eV 4)) aNil)) (gN 5)) sNx) [x0, some (.lst (rs.map .ref)), some (.int m), some (.lst (f.map .str)), some (partD p), xx, x6, x7, x8] (S ++ J) = some (.nx [x0, some (.lst (rs.map .ref)), some (.int m), some (.lst (f.map .str)), some (partD p), some (.lst ((someW K p).map .str)), x6, x7, x8] (S ++ J)) := by
      have il := is_letter_r p (S ++ J)
      refine ⟨some (.lst [partD p]), by simp, ?_⟩
      cases p with
      | a => simp only [partD, Part.isLet] at il ⊢; simp [il]; rfl
      | b => simp only [partD, Part.isLet] at il ⊢; simp [il]; rfl
      | nm i =>
        obtain ⟨hi0, hiK⟩ := hn i List.mem_cons_self
        have hiK' : i.toNat < K.length := by omega
        have hir : i.toNat < rs.length := by rw [hK.len]; exact hiK'
        have hr : rs[i.toNat]? = some rs[i.toNat] := List.getElem?_eq_getElem hir
        generalize rs[i.toNat] = r at hr
        have hS := hK.is i.toNat r _ hr (List.getElem?_eq_getElem hiK')
        have hKg : someW K (.nm i) = K[i.toNat] := by show K.getD i.toNat [] = _; rw [List.getD_eq_getElem?_getD, List.getElem?_eq_getElem hiK']; rfl
        rw [← hKg] at hS
        have hrS : r < S.length := (List.getElem?_eq_some_iff.mp hS).1
        have hS' : (S ++ J)[r]? = some (.dct (stD (someW K (.nm i)))) := by rw [List.getElem?_append_left hrS]; exact hS
        have hsub : opSub2 (.lst (rs.map D.ref)) (.int i) (S ++ J) = some (.ref r, S ++ J) := by rw [opSub2_lst, atI_pos hi0 (x := .ref r) (by rw [List.getElem?_map, hr]; rfl)]; rfl
        have hk : (stD (someW K (.nm i))).map (·.1) = (someW K (.nm i)).map .str := by unfold stD; rw [List.map_map]; rfl
        have hlist2 : fListA false [.ref r] (S ++ J) = some (.lst ((someW K (.nm i)).map .str), S ++ J) := by
          rw [fListA_dct hS', hk, newL_f (by rw [List.length_map]; exact size_le (by omega))]
        generalize someW K (.nm i) = z at *
        generalize S ++ J = T at *
        simp only [partD, Part.isLet] at il ⊢
        generalize rs.map D.ref = L at *
        rw [opSub2_lst] at hsub
        simp [il, hsub, hlist2]
    have body : l3_joined [x0, some (.lst (rs.map .ref)), some (.int m), some (.lst (f.map .str)), some (partD p), x5, x6, x7, x8] (S ++ J) = some (.nx [x0, some (.lst (rs.map .ref)), some (.int m), some (.lst ((joinS f (someW K p) m).map .str)), some (partD p), some (.lst ((someW K p).map .str)), some (.ref (S ++ J).length), x7', x8'] ((S ++ J) ++ [Cell.dct (stD (joinS f (someW K p) m))])) := by
      obtain ⟨xx, p1, p2⟩ := pick
      unfold l3_joined
      refine (seq_nx p1).trans ?_
      refine (seq_nx p2).trans ?_
      refine (seq_nx (ρ1 := [x0, some (.lst (rs.map .ref)), some (.int m), some (.lst (f.map .str)), some (partD p), some (.lst ((someW K p).map .str)), some (.ref (S ++ J).length), x7, x8]) (S1 := (S ++ J) ++ [Cell.dct (stD ([] : List Str))]) rfl).trans ?_
      refine (seq_nx (ρ1 := [x0, some (.lst (rs.map .ref)), some (.int m), some (.lst (f.map .str)), some (partD p), some (.lst ((someW K p).map .str)), some (.ref (S ++ J).length), x7', x8']) (S1 := (S ++ J) ++ [Cell.dct (stD (joinS f (someW K p) m))]) ?_).trans ?_
      · rw [sFor_r]
        simp only [iSeq_r, eV_s, eV_0, Option.bind_some, seqW_lst, gOf_lst]
        exact e1
      · generalize joinS f (someW K p) m = z at *
        generalize (S ++ J) ++ [Cell.dct (stD z)] = T at *
        generalize (S ++ J).length = q at *
        simp [hlist]
    rw [forL, if_pos (gYes_r (S := S ++ J))]
    show (l3_joined [x0, some (.lst (rs.map .ref)), some (.int m), some (.lst (f.map .str)), some (partD p), x5, x6, x7, x8] (S ++ J)).bind _ = _
    rw [body, List.append_assoc]
    rfl
theorem noBs_strs (l : List Str) : D.noBs (l.map .str) = true := noBs_map _ fun _ _ => rfl
theorem r_joined : Refines g_joined p_joined := fun ds S d S1 h => by
  unfold p_joined at h
  split at h
  · rename_i hx
    obtain ⟨h1, h2⟩ := hx.choose_spec
    cases h
    generalize hx.choose = x at h1 h2
    obtain ⟨s, rs, K, m⟩ := x
    dsimp only at h1 h2
    subst h1
    obtain ⟨x4', x5', x6', x7', x8', J', e2⟩ := join_out (x0 := some (sideD s)) h2.at_ h2.m0 h2.m8 h2.ink s [""] none none none none none [] h2.nm (nil_in h2.m0)
    rw [List.append_nil] at e2
    refine .inr ⟨[], J', by simp, ?_, low_noB _ (by rw [D.noB]; exact noBs_strs _), by simp⟩
    have e2' : forL gYes (gN 4) l3_joined (s.map partD) [some (.tup (s.map partD)), some (.lst (rs.map .ref)), some (.int m), some (.lst [.str ""]), none, none, none, none, none] S = some (.nx [some (sideD s), some (.lst (rs.map .ref)), some (.int m), some (.lst ((joinF m s K).map .str)), x4', x5', x6', x7', x8'] (S ++ J')) := e2
    show g_joined [.tup (s.map partD), .lst (rs.map .ref), .int m] S = _
    simp only [g_joined, runDef, b_joined]
    generalize joinF m s K = z at *
    simp [e2']
  · cases h
end Ev
end L2

namespace L2
namespace Ev
open PyProof.Rows PySem.Spec PySem L2
variable [Tb]
open Enc (e)
/-- words: 0 grammar, 1 most, 2 known, 3 row, 4 size, 5 name, 6 side, 7 word, 8 some -/
noncomputable def l1_words : MS := (sPut (eBin opSub2 (eV 2) (eV 5)) (eV 7) (eC (.bl true)))
noncomputable def l2_words : MS := (sFor (iSeq (eCall 3 p_joined (aCons (eV 6) (aCons (eV 2) (aCons (eV 1) aNil))))) (gN 7) l1_words)
noncomputable def l3_words : MS := (sFor (iSeq (eV 3)) (gN 6) l2_words)
noncomputable def l4_words : MS := (sSeq (sAsg (eFn fSum (aCons (eLc false [8] (iSeq (eV 2)) (gN 8) tTrue (eFn fLenA (aCons (eV 8) aNil))) aNil)) (gN 4)) (sFor (iEnumD (aCons (eV 0) aNil)) (gTupD 2 (gConsD (gN 5) (gConsD (gN 3) gNilD))) l3_words))
noncomputable def b_words : MS := (sSeq (sAsg (eLc false [3] (iSeq (eV 0)) (gN 3) tTrue eDnew) (gN 2)) (sSeq (sAsg (eUn opNeg (eC (.int 1))) (gN 4)) (sSeq (sWhile (tOf (eBin (opEq true) (eV 4) (eFn fSum (aCons (eLc false [8] (iSeq (eV 2)) (gN 8) tTrue (eFn fLenA (aCons (eV 8) aNil))) aNil)))) l4_words) (sRet (eFn fTuple (aCons (eSortK false kfLen okLen (eBin opSub2 (eV 2) (eC (.int 0)))) aNil))))))
noncomputable def g_words : List D → M D := runDef 9 b_words
/-! ### words, as it runs -/
theorem knAt_first' {κ : Type} [EncK κ] {S : Store} {rs : List Nat} {K : List (List κ)} {r : Nat} (h : KnAt S rs K) (hr : rs[0]? = some r) : S[r]? = some (.dct (stD (K.getD 0 []))) := by
  have hi : 0 < K.length := by rw [← h.len]; exact (List.getElem?_eq_some_iff.mp hr).1
  rw [h.is 0 r _ hr (List.getElem?_eq_getElem hi), List.getD_eq_getElem?_getD, List.getElem?_eq_getElem hi]; rfl
theorem foldW_len {F k : List Str} {m : Nat} (h8 : m ≤ 8) (hk : k.Nodup ∧ ∀ x ∈ k, x ∈ UW m) (hF : ∀ x ∈ F, x ∈ UW m) : (F.foldl ins k).length ≤ 511 := by
  refine UW_le h8 (foldl_ins_nodup _ hk.1) fun x hx => ?_
  rcases (mem_foldl_ins' _ _).mp hx with hx | hx
  · exact hk.2 x hx
  · exact hF x hx
theorem side_words {x : Gram × Int} (h : okW x) {rs : List Nat} (hl : rs.length = x.1.length) : SideOk 9 x.1 x.2 rs (joinF x.2) (UW x.2.toNat) l2_words := by
  intro ρ S K i r row s hE h5 h6 hK hU hr hg hs
  obtain ⟨h, h8⟩ := h
  have h0 := h.2.2.1.1
  have hlen : K.length = x.1.length := by rw [← hK.len]; exact hl
  have hnm := (h.2.2.2 row (List.mem_of_getElem? hg) s hs).2
  rw [← hlen] at hnm
  have e1 := joined_r (m := x.2) ⟨hK, h0, h8, hU, hnm⟩
  have hi : i < K.length := by rw [hlen]; exact (List.getElem?_eq_some_iff.mp hg).1
  have hS := hK.is i r _ hr (List.getElem?_eq_getElem hi)
  have hKg : K.getD i [] = K[i] := by rw [List.getD_eq_getElem?_getD, List.getElem?_eq_getElem hi]; rfl
  rw [← hKg] at hS
  have hF := joinF_in h0 hU s
  obtain ⟨ρ', e2, c1, c2, c3⟩ := put_loop (v := 7) (by decide) (by decide) hr (joinF x.2 s K) hE h5 hS (by have := foldW_len (by omega) (hU.get i) hF; omega)
  refine ⟨ρ', ?_, c1, c2, c3⟩
  rw [← e2]
  have v1 := eV_at (S := S) hE.s1
  have v2 := eV_at (S := S) hE.s2
  have v6 := eV_at (S := S) h6
  unfold l2_words
  simp [v1, v2, v6, e1]
  rfl
noncomputable def p_words : List D → M D := pureP (fun x : Gram × Int => [gramD x.1, .int x.2]) okW fun x => .tup (wordsL x)
theorem words_r {x : Gram × Int} (h : okW x) (S : Store) : p_words [gramD x.1, .int x.2] S = some (.tup (wordsL x), S) := pureP_r (enc := fun x : Gram × Int => [gramD x.1, D.int x.2]) encGM_inj h S
theorem wordR_first {x : Gram × Int} (h : okW x) : ((wordR x).getD 0 []).length ≤ 511 ∧ ∀ y ∈ (wordR x).getD 0 [], y.length ≤ 8 := by
  have hin := (wordR_in h.1.2.2.1.1).get 0
  have h8 := h.2
  refine ⟨UW_le (by omega) hin.1 hin.2, fun y hy => ?_⟩
  have := UW_small (hin.2 y hy)
  omega
theorem wordsL_mem {x : Gram × Int} {d : D} (h : d ∈ wordsL x) : ∃ y, y ∈ (wordR x).getD 0 [] ∧ d = .str y := by
  unfold wordsL sortW at h
  rw [List.mem_mergeSort] at h
  obtain ⟨y, hy, rfl⟩ := List.mem_map.mp h
  exact ⟨y, hy, rfl⟩
theorem wordsL_noB (x : Gram × Int) : D.noB (.tup (wordsL x)) = true := by
  rw [D.noB]
  refine noBs_all.mpr fun d hd => ?_
  obtain ⟨y, _, rfl⟩ := wordsL_mem hd
  rfl
theorem r_words : Refines g_words p_words := refines_pure (fun x h S => by
  have hR := wordR_rounds h.1.2.2.1.1
  obtain ⟨hl1, hl2⟩ := wordR_first h
  have hl : (List.range' S.length x.1.length).length = x.1.length := by simp
  have hE : EnvR 9 x.1 x.2 (List.range' S.length x.1.length) [some (gramD x.1), some (.int x.2), some (.lst ((List.range' S.length x.1.length).map .ref)), none, some (.int (-1)), none, none, none, none] := ⟨rfl, rfl, rfl, rfl⟩
  obtain ⟨ρ', S', e1, c1, c2, c3⟩ := rounds_run (c := 8) (side_words h hl) (by decide) (fun i row s K hg hs hU => joinF_in h.1.2.2.1.1 hU s) (by decide) (by decide) hl h.1.2.1 hR hE rfl knAt_new inK_new
  obtain ⟨J', e2, e3⟩ := fram_split (J := []) c3
  refine ⟨J', ?_⟩
  have hr : (List.range' S.length x.1.length)[0]? = some S.length := by rw [List.getElem?_range' (by have := h.1.1; omega)]; simp
  have hat := knAt_first' c2 hr
  have hso : sortK false kfLen okLen (.ref S.length) S' = some (.lst (wordsL x), S') := sortK_words hat (by omega) fun y hy => by have := hl2 y hy; omega
  have hsub : opSub2 (.lst ((List.range' S.length x.1.length).map D.ref)) (.int 0) S' = some (.ref S.length, S') := by
    rw [opSub2_lst, atI_pos (by decide) (x := .ref S.length) (by rw [List.getElem?_map, show (0 : Int).toNat = 0 from rfl, hr]; rfl)]; rfl
  have v2 := eV_at (S := S') c1.s2
  have hc := compL_new (ρ := [some (gramD x.1), some (.int x.2), none, none, none, none, none, none, none]) (x.1.map rowD) S [] (by simpa using h.1.2.1)
  rw [List.length_map, List.nil_append] at hc
  have hnl : newL false ((List.range' S.length x.1.length).map D.ref) (S ++ List.replicate x.1.length (.dct [])) = some (.lst ((List.range' S.length x.1.length).map D.ref), S ++ List.replicate x.1.length (.dct [])) := newL_f (by rw [List.length_map, hl]; exact size_le (by have := h.1.2.1; omega))
  rw [← e2]
  have body : b_words [some (gramD x.1), some (.int x.2), none, none, none, none, none, none, none] S = some (.rt (.tup (wordsL x)) S') := by
    unfold b_words
    refine (seq_nx (ρ1 := [some (gramD x.1), some (.int x.2), some (.lst ((List.range' S.length x.1.length).map .ref)), none, none, none, none, none, none]) (S1 := S ++ List.replicate x.1.length (.dct [])) ?_).trans ?_
    · have hgd : gramD x.1 = .tup (x.1.map rowD) := rfl
      rw [hgd] at hc ⊢
      generalize (List.range' S.length x.1.length).map D.ref = L at *
      simp [hc, hnl, gN]
    refine (seq_nx (ρ1 := [some (gramD x.1), some (.int x.2), some (.lst ((List.range' S.length x.1.length).map .ref)), none, some (.int (-1)), none, none, none, none]) (S1 := S ++ List.replicate x.1.length (.dct [])) rfl).trans ?_
    refine (seq_nx e1).trans ?_
    generalize (List.range' S.length x.1.length).map D.ref = L at *
    rw [opSub2_lst] at hsub
    simp [v2, hsub, hso, eSortK]
  show (b_words [some (gramD x.1), some (.int x.2), none, none, none, none, none, none, none] S).bind Res.out = _
  rw [body]
  rfl) fun x h n => low_noB _ (wordsL_noB x)
end Ev
end L2

namespace L2
namespace Ev
open PyProof.Rows PySem.Spec PySem L2
variable [Tb]
open Enc (e)
noncomputable def p_law_joined : List D → M D := pureP (fun x : List Str × List Str × Int => [.lst (x.1.map .str), .lst (x.2.1.map .str), .int x.2.2]) (fun x => x.1.length * x.2.1.length ≤ 1000000 ∧ (∀ y ∈ x.1, y.length ≤ 1000) ∧ ∀ y ∈ x.2.1, y.length ≤ 1000) fun x => .lst ((joinS x.1 x.2.1 x.2.2).map .str)
theorem strL_inj {l m : List Str} (h : l.map D.str = m.map D.str) : l = m := map_inj (fun a b h => D.str.inj h) h
theorem encSS_inj (a b : List Str × List Str × Int) (h : [D.lst (a.1.map .str), .lst (a.2.1.map .str), .int a.2.2] = [D.lst (b.1.map .str), .lst (b.2.1.map .str), .int b.2.2]) : a = b := by
  simp only [List.cons.injEq, D.lst.injEq, D.int.injEq, and_true] at h
  exact Prod.ext (strL_inj h.1) (Prod.ext (strL_inj h.2.1) h.2.2)
theorem law_joined_r {a o : List Str} {m : Int} (h : a.length * o.length ≤ 1000000) (ha : ∀ y ∈ a, y.length ≤ 1000) (ho : ∀ y ∈ o, y.length ≤ 1000) (S : Store) : p_law_joined [.lst (a.map .str), .lst (o.map .str), .int m] S = some (.lst ((joinS a o m).map .str), S) := pureP_r (enc := fun x : List Str × List Str × Int => [D.lst (x.1.map .str), .lst (x.2.1.map .str), .int x.2.2]) encSS_inj (a := (a, o, m)) ⟨h, ha, ho⟩ S
/-- law_joined: 0 law_one, 1 law_other, 2 law_most, 3 law_found, 4 law_first, 5 law_second -/
noncomputable def l1_law_joined : MS := (sIf (tOf (eBin opLe (eBin (opAdd false) (eFn fLen (aCons (eV 4) aNil)) (eFn fLen (aCons (eV 5) aNil))) (eV 2))) (sPut (eV 3) (eBin (opAdd false) (eV 4) (eV 5)) (eC (.bl true))) sNx)
noncomputable def l2_law_joined : MS := (sFor (iSeq (eV 1)) (gN 5) l1_law_joined)
noncomputable def b_law_joined : MS := (sSeq (sAsg eDnew (gN 3)) (sSeq (sFor (iSeq (eV 0)) (gN 4) l2_law_joined) (sRet (eFn (fListA false) (aCons (eV 3) aNil)))))
noncomputable def g_law_joined : List D → M D := runDef 6 b_law_joined
theorem ljoin_in {x0 x1 : Option D} {m : Int} {q : Nat} {a : Str} (ha : a.length ≤ 1000) : ∀ (o acc : List Str) (x5 : Option D) (T : Store), (∀ y ∈ o, y.length ≤ 1000) → T[q]? = some (.dct (stD acc)) → (((o.map fun y => a ++ y).filter fun w => decide ((w.length : Int) ≤ m)).foldl ins acc).length ≤ 1000000 →
    ∃ x5', forL gYes (gN 5) l1_law_joined (o.map .str) [x0, x1, some (.int m), some (.ref q), some (.str a), x5] T = some (.nx [x0, x1, some (.int m), some (.ref q), some (.str a), x5'] (T.set q (.dct (stD (((o.map fun y => a ++ y).filter fun w => decide ((w.length : Int) ≤ m)).foldl ins acc)))))
  | [], acc, x5, T, _, h, _ => ⟨x5, by rw [List.map_nil, List.map_nil, forL, if_pos (gYes_r (S := T)), List.filter_nil, List.foldl_nil, set_same h]⟩
  | b :: o, acc, x5, T, ho, h, hl => by
    have hb := ho b List.mem_cons_self
    have ho' : ∀ y ∈ o, y.length ≤ 1000 := fun y hy => ho y (List.mem_cons_of_mem _ hy)
    have l1 := len_str_r ha T
    have l2 := len_str_r hb T
    have hlen : ((a ++ b).length : Int) = a.length + b.length := by rw [PySem.Str.length_append]; omega
    have hadd : opAdd false (.str a) (.str b) T = some (.str (a ++ b), T) := opAdd_str (by rw [sizeLine_eq]; omega)
    rw [List.map_cons, List.filter_cons] at hl
    by_cases hm : ((a ++ b).length : Int) ≤ m
    · rw [if_pos (decide_eq_true hm), List.foldl_cons] at hl
      have h1 := foldl_ins_ge ((o.map fun y => a ++ y).filter fun w => decide ((w.length : Int) ≤ m)) (ins acc (a ++ b))
      have h2 : acc.length ≤ (ins acc (a ++ b)).length := by unfold ins; split <;> simp
      have hput : stPut (.ref q) (.str (a ++ b)) (.bl true) T = some (T.set q (.dct (stD (ins acc (a ++ b))))) := stPut_st (α := Str) (S := T) (n := q) (l := acc) (a ++ b) h (by omega)
      obtain ⟨x5', ih⟩ := ljoin_in (x0 := x0) (x1 := x1) ha o (ins acc (a ++ b)) (some (.str b)) (T.set q (.dct (stD (ins acc (a ++ b))))) ho' (set_get h) hl
      refine ⟨x5', ?_⟩
      rw [set_set'] at ih
      rw [List.map_cons, List.map_cons, List.filter_cons, if_pos (decide_eq_true hm), List.foldl_cons, ← ih]
      rw [hlen] at hm
      simp only [forL, gYes_r, if_true, gN, Option.bind_some, l1_law_joined]
      simp [l1, l2, hadd, hm, hput]
    · rw [if_neg (by simpa using hm)] at hl
      obtain ⟨x5', ih⟩ := ljoin_in (x0 := x0) (x1 := x1) ha o acc (some (.str b)) T ho' h hl
      refine ⟨x5', ?_⟩
      rw [List.map_cons, List.map_cons, List.filter_cons, if_neg (by simpa using hm), ← ih]
      rw [hlen] at hm
      simp only [forL, gYes_r, if_true, gN, Option.bind_some, l1_law_joined]
      simp [l1, l2, hadd, hm]
theorem ljoin_mid {x0 : Option D} {m : Int} {q : Nat} {o : List Str} (ho : ∀ y ∈ o, y.length ≤ 1000) : ∀ (f acc : List Str) (x4 x5 : Option D) (T : Store), (∀ y ∈ f, y.length ≤ 1000) → T[q]? = some (.dct (stD acc)) → ((f.flatMap fun x => (o.map fun y => x ++ y).filter fun w => decide ((w.length : Int) ≤ m)).foldl ins acc).length ≤ 1000000 →
    ∃ x4' x5', forL gYes (gN 4) l2_law_joined (f.map .str) [x0, some (.lst (o.map .str)), some (.int m), some (.ref q), x4, x5] T = some (.nx [x0, some (.lst (o.map .str)), some (.int m), some (.ref q), x4', x5'] (T.set q (.dct (stD ((f.flatMap fun x => (o.map fun y => x ++ y).filter fun w => decide ((w.length : Int) ≤ m)).foldl ins acc)))))
  | [], acc, x4, x5, T, _, h, _ => ⟨x4, x5, by rw [List.map_nil, forL, if_pos (gYes_r (S := T)), List.flatMap_nil, List.foldl_nil, set_same h]⟩
  | a :: f, acc, x4, x5, T, hf, h, hl => by
    rw [List.flatMap_cons, foldl_ins_app] at hl
    have h1 := foldl_ins_ge (f.flatMap fun x => (o.map fun y => x ++ y).filter fun w => decide ((w.length : Int) ≤ m)) (((o.map fun y => a ++ y).filter fun w => decide ((w.length : Int) ≤ m)).foldl ins acc)
    obtain ⟨x5', e1⟩ := ljoin_in (x0 := x0) (x1 := some (.lst (o.map .str))) (m := m) (hf a List.mem_cons_self) o acc x5 T ho h (by omega)
    obtain ⟨x4', x5'', ih⟩ := ljoin_mid (x0 := x0) ho f _ (some (.str a)) x5' (T.set q (.dct (stD (((o.map fun y => a ++ y).filter fun w => decide ((w.length : Int) ≤ m)).foldl ins acc)))) (fun y hy => hf y (List.mem_cons_of_mem _ hy)) (set_get h) hl
    refine ⟨x4', x5'', ?_⟩
    rw [set_set'] at ih
    rw [List.flatMap_cons, foldl_ins_app, ← ih, List.map_cons]
    simp only [forL, gYes_r, if_true, gN, Option.bind_some, l2_law_joined]
    simp [e1]
theorem flatS_len {f o : List Str} {m : Int} : (f.flatMap fun x => (o.map fun y => x ++ y).filter fun w => decide ((w.length : Int) ≤ m)).length ≤ f.length * o.length := by
  induction f with
  | nil => simp
  | cons a f ih =>
    have h := List.length_filter_le (fun w : Str => decide ((w.length : Int) ≤ m)) (o.map fun y => a ++ y)
    rw [List.length_map] at h
    rw [List.flatMap_cons, List.length_append, List.length_cons, Nat.add_mul]; omega
theorem joinS_le (f o : List Str) (m : Int) : (joinS f o m).length ≤ f.length * o.length := by
  unfold joinS
  have h := foldl_ins_le (f.flatMap fun x => (o.map fun y => x ++ y).filter fun w => decide ((w.length : Int) ≤ m)) []
  have h2 := flatS_len (f := f) (o := o) (m := m)
  rw [List.length_nil] at h
  omega
theorem r_law_joined : Refines g_law_joined p_law_joined := refines_pure (fun x h S => by
  obtain ⟨f, o, m⟩ := x
  dsimp only at h ⊢
  obtain ⟨h, hf, ho⟩ := h
  have hl := joinS_le f o m
  obtain ⟨x4', x5', e1⟩ := ljoin_mid (x0 := some (.lst (f.map .str))) (m := m) (q := S.length) ho f [] none none (S ++ [Cell.dct (stD ([] : List Str))]) hf at_len (by show (joinS f o m).length ≤ _; omega)
  rw [set_len] at e1
  have hat : (S ++ [Cell.dct (stD (joinS f o m))])[S.length]? = some (.dct (stD (joinS f o m))) := at_len
  have hk : (stD (joinS f o m)).map (·.1) = (joinS f o m).map .str := by unfold stD; rw [List.map_map]; rfl
  have hlist : fListA false [.ref S.length] (S ++ [Cell.dct (stD (joinS f o m))]) = some (.lst ((joinS f o m).map .str), S ++ [Cell.dct (stD (joinS f o m))]) := by
    rw [fListA_dct hat, hk, newL_f (by rw [List.length_map]; exact size_le (by omega))]
  refine ⟨[Cell.dct (stD (joinS f o m))], ?_⟩
  have e1' : forL gYes (gN 4) l2_law_joined (f.map .str) [some (.lst (f.map .str)), some (.lst (o.map .str)), some (.int m), some (.ref S.length), none, none] (S ++ [Cell.dct []]) = some (.nx [some (.lst (f.map .str)), some (.lst (o.map .str)), some (.int m), some (.ref S.length), x4', x5'] (S ++ [Cell.dct (stD (joinS f o m))])) := e1
  simp only [g_law_joined, runDef, b_law_joined]
  simp [e1', hlist]) fun x h n => low_noB _ (by rw [D.noB]; exact noBs_strs _)
/-- law_words: 0 law_grammar_here, 1 law_most, 2 law_known, 3 law_row, 4 law_size, 5 law_name, 6 law_side_here, 7 law_found, 8 law_part, 9 law_word, 10 law_some -/
noncomputable def l1_law_words : MS := (sSeq (sAsg (eLst false (aCons (eV 8) aNil)) (gN 10)) (sSeq (sIf (tNotD (tOf (eIsi "str" (eV 8)))) (sAsg (eFn (fListA false) (aCons (eBin opSub2 (eV 2) (eV 8)) aNil)) (gN 10)) sNx) (sAsg (eCall 3 p_law_joined (aCons (eV 7) (aCons (eV 10) (aCons (eV 1) aNil)))) (gN 7))))
noncomputable def l2_law_words : MS := (sPut (eBin opSub2 (eV 2) (eV 5)) (eV 9) (eC (.bl true)))
noncomputable def l3_law_words : MS := (sSeq (sAsg (eLst false (aCons (eC (.str "")) aNil)) (gN 7)) (sSeq (sFor (iSeq (eV 6)) (gN 8) l1_law_words) (sFor (iSeq (eV 7)) (gN 9) l2_law_words)))
noncomputable def l4_law_words : MS := (sFor (iSeq (eV 3)) (gN 6) l3_law_words)
noncomputable def l5_law_words : MS := (sSeq (sAsg (eFn fSum (aCons (eLc false [10] (iSeq (eV 2)) (gN 10) tTrue (eFn fLenA (aCons (eV 10) aNil))) aNil)) (gN 4)) (sFor (iEnumD (aCons (eV 0) aNil)) (gTupD 2 (gConsD (gN 5) (gConsD (gN 3) gNilD))) l4_law_words))
noncomputable def b_law_words : MS := (sSeq (sAsg (eLc false [3] (iSeq (eV 0)) (gN 3) tTrue eDnew) (gN 2)) (sSeq (sAsg (eUn opNeg (eC (.int 1))) (gN 4)) (sSeq (sWhile (tOf (eBin (opEq true) (eV 4) (eFn fSum (aCons (eLc false [10] (iSeq (eV 2)) (gN 10) tTrue (eFn fLenA (aCons (eV 10) aNil))) aNil)))) l5_law_words) (sRet (eSortK false kfLen okLen (eBin opSub2 (eV 2) (eC (.int 0))))))))
noncomputable def g_law_words : List D → M D := runDef 11 b_law_words
noncomputable def p_law_words : List D → M D := pureP (fun x : Gram × Int => [gramD x.1, .int x.2]) okW fun x => .lst (wordsL x)
theorem law_words_r {x : Gram × Int} (h : okW x) (S : Store) : p_law_words [gramD x.1, .int x.2] S = some (.lst (wordsL x), S) := pureP_r (enc := fun x : Gram × Int => [gramD x.1, D.int x.2]) encGM_inj h S
theorem law_wpart {g : Gram} {m : Int} {rs : List Nat} (h0 : 0 ≤ m) (h8 : m ≤ 8) {K : List (List Str)} {S : Store} (hK : KnAt S rs K) (hU : InK (UW m.toNat) K) (p : Part) (hp : ∀ i, p = .nm i → 0 ≤ i ∧ i < K.length) {f : List Str} {ρ : EnvD} (hE : EnvR 11 g m rs ρ) (h7 : ρ[7]? = some (some (.lst (f.map .str)))) (hfn : f.Nodup) (hf : ∀ x ∈ f, x ∈ UW m.toNat) :
    ∃ ρ', l1_law_words (ρ.set 8 (some (partD p))) S = some (.nx ρ' S) ∧ EnvR 11 g m rs ρ' ∧ ρ'[4]? = ρ[4]? ∧ ρ'[5]? = ρ[5]? ∧ ρ'[7]? = some (some (.lst ((joinS f (someW K p) m).map .str))) := by
  have hE1 : EnvR 11 g m rs (ρ.set 8 (some (partD p))) := hE.set 8 _
  have hlen := someW_len h0 h8 hU p
  have hsm := someW_small h0 h8 hU p
  have hfl := UW_le (by omega) hfn hf
  have hfs : ∀ y ∈ f, y.length ≤ 1000 := fun y hy => by have := UW_small (hf y hy); omega
  have hmul : f.length * (someW K p).length ≤ 1000000 := Nat.le_trans (Nat.mul_le_mul hfl hlen) (by decide)
  have fin : ∀ ρ2 : EnvD, EnvR 11 g m rs ρ2 → ρ2[4]? = ρ[4]? → ρ2[5]? = ρ[5]? → ρ2[7]? = some (some (.lst (f.map .str))) → ρ2[10]? = some (some (.lst ((someW K p).map .str))) →
      ∃ ρ', sAsg (eCall 3 p_law_joined (aCons (eV 7) (aCons (eV 10) (aCons (eV 1) aNil)))) (gN 7) ρ2 S = some (.nx ρ' S) ∧ EnvR 11 g m rs ρ' ∧ ρ'[4]? = ρ[4]? ∧ ρ'[5]? = ρ[5]? ∧ ρ'[7]? = some (some (.lst ((joinS f (someW K p) m).map .str))) := fun ρ2 a1 a2 a3 a4 a5 => by
    have e1 := law_joined_r (m := m) hmul hfs hsm S
    have v7 := eV_at (S := S) a4
    have v10 := eV_at (S := S) a5
    have v1 := eV_at (S := S) a1.s1
    refine ⟨ρ2.set 7 (some (.lst ((joinS f (someW K p) m).map .str))), ?_, a1.set 7 _, by rw [env_set (by decide)]; exact a2, by rw [env_set (by decide)]; exact a3, env_self (by rw [a1.len]; decide)⟩
    simp [v7, v10, v1, e1, gN]
  have v8 : eV 8 (ρ.set 8 (some (partD p))) S = some (partD p, S) := eV_at (env_self (by rw [hE.len]; decide))
  have hE2 : EnvR 11 g m rs ((ρ.set 8 (some (partD p))).set 10 (some (.lst [partD p]))) := hE1.set 10 _
  have st1 : sAsg (eLst false (aCons (eV 8) aNil)) (gN 10) (ρ.set 8 (some (partD p))) S = some (.nx ((ρ.set 8 (some (partD p))).set 10 (some (.lst [partD p]))) S) := by simp [v8, gN]
  have v8' : eV 8 ((ρ.set 8 (some (partD p))).set 10 (some (.lst [partD p]))) S = some (partD p, S) := eV_at (by rw [env_set (by decide)]; exact env_self (by rw [hE.len]; decide))
  unfold l1_law_words
  by_cases hl : p.isLet = true
  · have hsw : (someW K p).map D.str = [partD p] := by cases p <;> first | rfl | cases hl
    obtain ⟨ρ', e1, c⟩ := fin _ hE2 (by rw [env_set (by decide), env_set (by decide)]) (by rw [env_set (by decide), env_set (by decide)]) (by rw [env_set (by decide), env_set (by decide)]; exact h7) (by rw [hsw]; exact env_self (by rw [hE1.len]; decide))
    refine ⟨ρ', ?_, c⟩
    refine (seq_nx st1).trans ?_
    refine (seq_nx (ρ1 := (ρ.set 8 (some (partD p))).set 10 (some (.lst [partD p]))) (S1 := S) ?_).trans e1
    cases p with
    | nm i => cases hl
    | a => simp only [partD] at v8' ⊢; simp [v8', isiT]
    | b => simp only [partD] at v8' ⊢; simp [v8', isiT]
  · cases p with
    | a => exact absurd rfl hl
    | b => exact absurd rfl hl
    | nm i =>
      obtain ⟨hi0, hiK⟩ := hp i rfl
      obtain ⟨ρ', e1, c⟩ := fin (((ρ.set 8 (some (partD (.nm i)))).set 10 (some (.lst [partD (.nm i)]))).set 10 (some (.lst ((someW K (.nm i)).map .str)))) (hE2.set 10 _) (by rw [env_set (by decide), env_set (by decide), env_set (by decide)]) (by rw [env_set (by decide), env_set (by decide), env_set (by decide)]) (by rw [env_set (by decide), env_set (by decide), env_set (by decide)]; exact h7) (env_self (by rw [hE2.len]; decide))
      refine ⟨ρ', ?_, c⟩
      refine (seq_nx st1).trans ?_
      refine (seq_nx (ρ1 := ((ρ.set 8 (some (partD (.nm i)))).set 10 (some (.lst [partD (.nm i)]))).set 10 (some (.lst ((someW K (.nm i)).map .str)))) (S1 := S) ?_).trans e1
      have v2 := eV_at (S := S) hE2.s2
      have hiK' : i.toNat < K.length := by omega
      have hir : i.toNat < rs.length := by rw [hK.len]; exact hiK'
      have hr : rs[i.toNat]? = some rs[i.toNat] := List.getElem?_eq_getElem hir
      generalize rs[i.toNat] = r at hr
      have hS := hK.is i.toNat r _ hr (List.getElem?_eq_getElem hiK')
      have hKg : someW K (.nm i) = K[i.toNat] := by show K.getD i.toNat [] = _; rw [List.getD_eq_getElem?_getD, List.getElem?_eq_getElem hiK']; rfl
      rw [← hKg] at hS
      have hsub : opSub2 (.lst (rs.map D.ref)) (.int i) S = some (.ref r, S) := by rw [opSub2_lst, atI_pos hi0 (x := .ref r) (by rw [List.getElem?_map, hr]; rfl)]; rfl
      have hk : (stD (someW K (.nm i))).map (·.1) = (someW K (.nm i)).map .str := by unfold stD; rw [List.map_map]; rfl
      have hlist : fListA false [.ref r] S = some (.lst ((someW K (.nm i)).map .str), S) := by
        rw [fListA_dct hS, hk, newL_f (by rw [List.length_map]; exact size_le (by omega))]
      generalize (ρ.set 8 (some (partD (.nm i)))).set 10 (some (.lst [partD (.nm i)])) = ρ2 at *
      generalize someW K (.nm i) = z at *
      generalize rs.map D.ref = L at *
      simp only [partD] at v8'
      rw [opSub2_lst] at hsub
      simp [v8', v2, isiT, hsub, hlist, gN]
theorem law_wparts {g : Gram} {m : Int} {rs : List Nat} (h0 : 0 ≤ m) (h8 : m ≤ 8) {K : List (List Str)} {S : Store} (hK : KnAt S rs K) (hU : InK (UW m.toNat) K) : ∀ (ps : Side), (∀ i, Part.nm i ∈ ps → 0 ≤ i ∧ i < K.length) → ∀ {f : List Str} {ρ : EnvD}, EnvR 11 g m rs ρ → ρ[7]? = some (some (.lst (f.map .str))) → f.Nodup → (∀ x ∈ f, x ∈ UW m.toNat) →
    ∃ ρ', forL gYes (gN 8) l1_law_words (ps.map partD) ρ S = some (.nx ρ' S) ∧ EnvR 11 g m rs ρ' ∧ ρ'[4]? = ρ[4]? ∧ ρ'[5]? = ρ[5]? ∧ ρ'[7]? = some (some (.lst ((joinL m K ps f).map .str)))
  | [], _, f, ρ, hE, h7, _, _ => ⟨ρ, rfl, hE, rfl, rfl, h7⟩
  | p :: ps, hp, f, ρ, hE, h7, h1, h2 => by
    obtain ⟨ρ1, e1, c1, c2, c3, c4⟩ := law_wpart h0 h8 hK hU p (fun i z => hp i (z ▸ List.mem_cons_self)) hE h7 h1 h2
    obtain ⟨ρ', e2, d1, d2, d3, d4⟩ := law_wparts h0 h8 hK hU ps (fun i z => hp i (List.mem_cons_of_mem _ z)) c1 c4 (foldl_ins_nodup _ List.nodup_nil) (joinS_in h0 hU p h2)
    refine ⟨ρ', ?_, d1, d2.trans c2, d3.trans c3, d4⟩
    rw [List.map_cons, forL, if_pos (gYes_r (S := S))]
    show (l1_law_words (ρ.set 8 (some (partD p))) S).bind _ = _
    rw [e1]
    exact e2
theorem side_lwords {x : Gram × Int} (h : okW x) {rs : List Nat} (hl : rs.length = x.1.length) : SideOk 11 x.1 x.2 rs (joinF x.2) (UW x.2.toNat) l3_law_words := by
  intro ρ S K i r row s hE h5 h6 hK hU hr hg hs
  obtain ⟨h, h8⟩ := h
  have h0 := h.2.2.1.1
  have hlen : K.length = x.1.length := by rw [← hK.len]; exact hl
  have hi : i < K.length := by rw [hlen]; exact (List.getElem?_eq_some_iff.mp hg).1
  have hS := hK.is i r _ hr (List.getElem?_eq_getElem hi)
  have hKg : K.getD i [] = K[i] := by rw [List.getD_eq_getElem?_getD, List.getElem?_eq_getElem hi]; rfl
  rw [← hKg] at hS
  have hnm := (h.2.2.2 row (List.mem_of_getElem? hg) s hs).2
  rw [← hlen] at hnm
  have hE7 : EnvR 11 x.1 x.2 rs (ρ.set 7 (some (.lst [.str ""]))) := hE.set 7 _
  obtain ⟨ρ1, e1, a1, a2, a3, a4⟩ := law_wparts h0 h8 hK hU s hnm (f := [""]) hE7 (env_self (by rw [hE.len]; decide)) (List.nodup_cons.mpr ⟨by simp, List.nodup_nil⟩) (nil_in h0)
  have hF := joinF_in h0 hU s
  have a5 : ρ1[5]? = some (some (.int (i : Nat))) := by rw [a3, env_set (by decide)]; exact h5
  obtain ⟨ρ', e2, c1, c2, c3⟩ := put_loop (v := 9) (by decide) (by decide) hr (joinL x.2 K s [""]) a1 a5 hS (by have := foldW_len (by omega) (hU.get i) hF; exact Nat.le_trans this (by decide))
  refine ⟨ρ', ?_, c1, by rw [c2, a2, env_set (by decide)], by rw [c3, a3, env_set (by decide)]⟩
  show l3_law_words ρ S = some (.nx ρ' (S.set r (.dct (stD ((joinL x.2 K s [""]).foldl ins (K.getD i []))))))
  rw [← e2]
  unfold l3_law_words
  refine (seq_nx (ρ1 := ρ.set 7 (some (.lst [.str ""]))) (S1 := S) rfl).trans ?_
  have v6 : eV 6 (ρ.set 7 (some (.lst [.str ""]))) S = some (sideD s, S) := eV_at (by rw [env_set (by decide)]; exact h6)
  have v7 := eV_at (S := S) a4
  have hsd : sideD s = .tup (s.map partD) := rfl
  rw [hsd] at v6
  refine (seq_nx (ρ1 := ρ1) (S1 := S) ?_).trans ?_
  · rw [← e1]
    simp [v6]
  · generalize joinL x.2 K s [""] = z at *
    simp [v7]
    rfl
theorem r_law_words : Refines g_law_words p_law_words := refines_pure (fun x h S => by
  have hR := wordR_rounds h.1.2.2.1.1
  obtain ⟨hl1, hl2⟩ := wordR_first h
  have hl : (List.range' S.length x.1.length).length = x.1.length := by simp
  have hE : EnvR 11 x.1 x.2 (List.range' S.length x.1.length) [some (gramD x.1), some (.int x.2), some (.lst ((List.range' S.length x.1.length).map .ref)), none, some (.int (-1)), none, none, none, none, none, none] := ⟨rfl, rfl, rfl, rfl⟩
  obtain ⟨ρ', S', e1, c1, c2, c3⟩ := rounds_run (c := 10) (side_lwords h hl) (by decide) (fun i row s K hg hs hU => joinF_in h.1.2.2.1.1 hU s) (by decide) (by decide) hl h.1.2.1 hR hE rfl knAt_new inK_new
  obtain ⟨J', e2, e3⟩ := fram_split (J := []) c3
  refine ⟨J', ?_⟩
  have hr : (List.range' S.length x.1.length)[0]? = some S.length := by rw [List.getElem?_range' (by have := h.1.1; omega)]; simp
  have hat := knAt_first' c2 hr
  have hso : sortK false kfLen okLen (.ref S.length) S' = some (.lst (wordsL x), S') := sortK_words hat (by omega) fun y hy => by have := hl2 y hy; omega
  have hsub : opSub2 (.lst ((List.range' S.length x.1.length).map D.ref)) (.int 0) S' = some (.ref S.length, S') := by
    rw [opSub2_lst, atI_pos (by decide) (x := .ref S.length) (by rw [List.getElem?_map, show (0 : Int).toNat = 0 from rfl, hr]; rfl)]; rfl
  have v2 := eV_at (S := S') c1.s2
  have hc := compL_new (ρ := [some (gramD x.1), some (.int x.2), none, none, none, none, none, none, none, none, none]) (x.1.map rowD) S [] (by simpa using h.1.2.1)
  rw [List.length_map, List.nil_append] at hc
  have hnl : newL false ((List.range' S.length x.1.length).map D.ref) (S ++ List.replicate x.1.length (.dct [])) = some (.lst ((List.range' S.length x.1.length).map D.ref), S ++ List.replicate x.1.length (.dct [])) := newL_f (by rw [List.length_map, hl]; exact size_le (by have := h.1.2.1; omega))
  rw [← e2]
  have body : b_law_words [some (gramD x.1), some (.int x.2), none, none, none, none, none, none, none, none, none] S = some (.rt (.lst (wordsL x)) S') := by
    unfold b_law_words
    refine (seq_nx (ρ1 := [some (gramD x.1), some (.int x.2), some (.lst ((List.range' S.length x.1.length).map .ref)), none, none, none, none, none, none, none, none]) (S1 := S ++ List.replicate x.1.length (.dct [])) ?_).trans ?_
    · have hgd : gramD x.1 = .tup (x.1.map rowD) := rfl
      rw [hgd] at hc ⊢
      generalize (List.range' S.length x.1.length).map D.ref = L at *
      simp [hc, hnl, gN]
    refine (seq_nx (ρ1 := [some (gramD x.1), some (.int x.2), some (.lst ((List.range' S.length x.1.length).map .ref)), none, some (.int (-1)), none, none, none, none, none, none]) (S1 := S ++ List.replicate x.1.length (.dct [])) rfl).trans ?_
    refine (seq_nx e1).trans ?_
    generalize (List.range' S.length x.1.length).map D.ref = L at *
    rw [opSub2_lst] at hsub
    simp [v2, hsub, hso, eSortK]
  show (b_law_words [some (gramD x.1), some (.int x.2), none, none, none, none, none, none, none, none, none] S).bind Res.out = _
  rw [body]
  rfl) fun x h n => low_noB _ (by have := wordsL_noB x; simp only [D.noB] at this ⊢; exact this)
end Ev
end L2

namespace L2
namespace Ev
open PyProof.Rows PySem.Spec PySem L2
variable [Tb]
/-! ### a dict told with one entry -/
section
variable {X : Cx} {pins : List (Addr × Obj)} {σ : St} {W : Wd} {s : Shared} {a : Addr} {A : Around} {E : Value → Shared → Prop} {kvs : List (D × D)} {k : D} {y : V} {u : Value}
theorem hd_put {Q : Unit → Shared → Prop} {e : D} {ev : V} {eu : Value} (hu : A.units + 100 < cLine) (I : Inv X pins σ W.H s) (hs : (a == sysModules) = false) {o : HO} (hH : W.H a = some o) (hO : DcOb X.prog X.w X.K W a kvs o) (hl : kvs.length < sizeLine) (hd : HD X W s a kvs) (hf : fitK kvs k = true) (ry : Rp X.K W k y) (ru : RelV y u) (re : Rp X.K W e ev) (reu : RelV ev eu)
    (h : ∀ o' s', Inv X pins σ (upd W.H a o') s' → DcOb X.prog X.w X.K W a (dPut kvs k e) o' → Q () s') : wpAny (model X.prog X.w) A (dictSet a u eu) Q E s := by
  have hl' : (dPut kvs k e).length ≤ sizeLine := by have := dPut_length kvs k e; omega
  have mu : Mut (W.H a) := by rw [hH]; exact mut_dc hO
  rcases hd.fit hf with ⟨key, ks, vs, rfl, r, q, dd⟩ | ⟨n, ks, xs, hn, h8, ⟨es, rfl⟩, r, q, dd⟩
  · obtain rfl := keyV_rel ry
    have hz : vs.length ≤ sizeLine := by rw [← q.length, ← r.length]; omega
    refine wpAny_dictSet_pairs (hsz := hz) (kV_is ru) dd fun h' dd' hsb => h (.dK (putK ks key ev)) _ ?_ ⟨hl', .inl ⟨_, rfl, r.put re⟩⟩
    have he : ∃ q, h'.get? a = some q := let ⟨q, _, _, hq, _⟩ := dd'; ⟨q, hq⟩
    refine d_write I mu hsb he (dk_new ?_ hs (q.put key reu) dd')
    rw [← (r.put (key := key) re).length]; exact hl'
  · obtain ⟨b, vs', rfl, hb, hr⟩ := id ry
    obtain rfl : u = .ref b := ru
    have hz : xs.length ≤ sizeLine := by rw [← Paired.length q, ← r.length]; omega
    refine wpAny_dictSet_heap (knd := nestedKind X.prog X.w) (hsz := hz) (show A.units + 8 < cLine by omega) ⟨nested_is I _ _ _ n hn ry rfl, h8⟩ dd fun h' dd' hsb => h (ObN X.prog X.w a (putN ks n b ev)) _ ?_ ⟨hl', .inr ⟨dPut_ne kvs _ e, _, rfl, r.put hn h8 ⟨es, rfl⟩ ry re⟩⟩
    have he : ∃ q, h'.get? a = some q := let ⟨q, _, _, hq, _⟩ := dd'; ⟨q, hq⟩
    exact d_write I mu hsb he (obN_ok hs (q.put n reu) dd')
end
def stPutD (n : Nat) (k v : D) : Store → Option Store := fun S => match S[n]? with
  | some (.dct kvs) => if fitK kvs k = true ∧ kvs.length < sizeLine then some (S.set n (.dct (dPut kvs k v))) else none
  | _ => none
theorem stPutD_of {n : Nat} {k v : D} {S S' : Store} {kvs : List (D × D)} (h : S[n]? = some (.dct kvs)) (e : stPut (.ref n) k v S = some S') : stPutD n k v S = some S' := by
  unfold stPut at e
  unfold stPutD
  simp only [h] at e ⊢
  exact e
def eDict1 (fk fv : ME) : ME := fun ρ S => (fk ρ (S ++ [.dct []])).bind fun (k, S1) => (fv ρ S1).bind fun (v, S2) => (stPutD S.length k v S2).map fun S3 => (.ref S.length, S3)
section
variable {X : Cx} {k v : Expr} {fk fv : ME} {pos : Pos}
theorem e_dict1 (hu : X.A.units + 190 < cLine) (hk : EvE X k fk) (hv : EvE X v fv) : EvE X (.Dict [some k] [v] pos) (eDict1 fk fv) := ⟨fun pins s σ H Q I q => by
  obtain ⟨W, ρ, d, S', rfl, ok, hρ, he, q⟩ := q
  unfold eDict1 at he
  rw [Option.bind_eq_some_iff] at he
  obtain ⟨⟨kd, S1⟩, e1, he⟩ := he
  dsimp only at he
  rw [Option.bind_eq_some_iff] at he
  obtain ⟨⟨vd, S2⟩, e2, he⟩ := he
  dsimp only at he
  simp only [Option.map_eq_some_iff, Prod.mk.injEq] at he
  obtain ⟨S3, e3, rfl, rfl⟩ := he
  have hp : W.H s.heap.objs.size = none := I.hok.fresh (Nat.le_refl _)
  have hO0 : DcOb X.prog X.w X.K W s.heap.objs.size [] (.dK []) := ⟨Nat.zero_le _, .inl ⟨[], rfl, rfl⟩⟩
  have st0 : Stp (md X) W (W.S ++ [Cell.dct []]) { W with H := upd W.H s.heap.objs.size (.dK []), μ := W.μ ++ [s.heap.objs.size], S := W.S ++ [Cell.dct []] } := Step.alloc ok hp _ (.dct []) fun e => ⟨_, upd_same, e.dcOb hO0⟩
  have r0 : Rp X.K { W with H := upd W.H s.heap.objs.size (.dK []), μ := W.μ ++ [s.heap.objs.size], S := W.S ++ [Cell.dct []] } (.ref W.S.length) (.ref s.heap.objs.size) := ⟨s.heap.objs.size, rfl, by
    show (W.μ ++ [s.heap.objs.size])[W.S.length]? = some s.heap.objs.size
    rw [← ok.len, List.getElem?_append_right (Nat.le_refl _), Nat.sub_self]; rfl⟩
  have I0 : Inv X pins σ (upd W.H s.heap.objs.size (.dK [])) { s with heap := s.heap.push { cls := .type "dict", data := .dict #[] }, toks := s.toks } := I.laid (a := s.heap.objs.size) (o := .dK []) (t' := s.toks) (fun _ _ q => Heap.get?_push_of_some _ q) (Nat.le_refl _) (dk_empty s.heap I.big)
  have hshape : (evalEachOpt [some k] X.env).zip ((evalEach [v] X.env).map fun v => do let x ← v; standAt pos; pure x) = [(eval k X.env, (do let x ← eval v X.env; standAt pos; pure x : Sem Value))].map fun p => (some p.1, p.2) := rfl
  rw [arm_eval_Dict, hshape, dictDisplay_pairs _ (by simp) (by simp)]
  refine wpAny_bind (wpAny_standAt (wpAny_bind ?_))
  unfold subDict
  refine wpAny_bind (wpAny_alloc ?_)
  refine wpAny_bind (wpAny_holding ?_)
  rw [if_pos (by simp)]
  generalize hW0 : ({ W with H := upd W.H s.heap.objs.size (.dK []), μ := W.μ ++ [s.heap.objs.size], S := W.S ++ [Cell.dct []] } : Wd) = W0 at st0 r0
  have eH0 : W0.H = upd W.H s.heap.objs.size (.dK []) := by rw [← hW0]
  rw [← eH0] at I0
  have eS0 : W0.S = W.S ++ [Cell.dct []] := st0.st
  refine wpAny_bind ?_
  unfold evalPairs
  refine wpAny_bind (thn (hk.run pins _ σ W0.H (fun z H1 => ∃ W1, W1.H = H1 ∧ Stp (md X) W0 S1 W1 ∧ Rp X.K W1 kd z) I0 ⟨W0, ρ, kd, S1, rfl, st0.ok, st0.ext.rσ hρ, by rw [eS0]; exact e1, fun W1 z st r => ⟨W1, rfl, st, r⟩⟩) fun ku s1 ⟨kv, H1, I1, rku, W1, eW1, st1, rk⟩ => ?_)
  subst eW1
  refine wpAny_bind (wpAny_holding (wpAny_bind (thn (hv.run pins s1 σ W1.H (fun z H1 => ∃ W2, W2.H = H1 ∧ Stp (md X) W1 S2 W2 ∧ Rp X.K W2 vd z) I1 ⟨W1, ρ, vd, S2, rfl, st1.ok, (st0.trans st1).ext.rσ hρ, by rw [st1.st]; exact e2, fun W1 z st r => ⟨W1, rfl, st, r⟩⟩) fun vu s2 ⟨vv, H2, I2, rvu, W2, eW2, st2, rv⟩ => wpAny_bind (wpAny_standAt (wpAny_pure ?_)))))
  subst eW2
  refine wpAny_bind (wpAny_holding ?_)
  unfold evalPairs
  refine wpAny_pure (wpAny_pure ?_)
  refine wpAny_holding ?_
  have st12 := st1.trans st2
  have rk2 := st2.ext _ _ rk
  have rd2 := st12.ext _ _ r0
  unfold stPutD at e3
  split at e3
  · rename_i kvs eS
    split at e3
    · rename_i hf
      cases e3
      rw [← st2.st] at eS
      obtain ⟨a, o', ha, hn, hH, hO⟩ := place_dct st2.ok eS rd2
      obtain rfl : s.heap.objs.size = a := V.ref.inj ha
      obtain ⟨hss, hd⟩ := hd_open I2 (.inl hH) hO
      rw [List.forIn_cons]
      refine wpAny_bind (wpAny_bind (wpAny_bind (hd_put (by omega) I2 hss hH hO hf.2 hd hf.1 rk2 rku rv rvu fun o2 s4 I4 h2 => ?_)))
      have st3 := wr_dct st2.ok hn eS hH hO h2
      refine wpAny_pure ?_
      dsimp only
      rw [List.forIn_nil]
      refine wpAny_pure (wpAny_pure (wpAny_pure (wpAny_pure ?_)))
      refine ⟨.ref s.heap.objs.size, _, I4, rfl, q _ _ ?_ (st3.ext _ _ rd2)⟩
      have := (st0.trans st12).trans st3
      rw [← st2.st]; exact this
    · cases e3
  · cases e3⟩
end
end Ev
end L2

namespace L2
namespace Ev
open PyProof.Rows PySem.Spec PySem L2
variable [Tb]
open Enc (e)
/-! ### needed: steps without those that are sums of others -/
def leS (p q : P2) : Bool := leK kfSum (pairD p) (pairD q)
def sortS (l : List P2) : List P2 := l.mergeSort leS
theorem sortS_D (l : List P2) : (l.map pairD).mergeSort (leK kfSum) = (sortS l).map pairD := (List.map_mergeSort (r := leS) (s := leK kfSum) (f := pairD) (l := l) fun a _ b _ => rfl).symm
theorem sortOk_steps (l : List P2) : sortOk ((l.map pairD).map kfSum) = true := by
  have e : ∀ p : P2, ordK (kfSum (pairD p)) = .tuple [.int (p.1 + p.2), .tuple [.int p.1, .int p.2]] := fun p => by simp [pairD, kfSum, ordK, py0, py0s]
  rw [List.map_map]
  unfold sortOk
  simp only [Bool.and_eq_true, Bool.or_eq_true, List.all_eq_true, List.mem_map, forall_exists_index, and_imp, forall_apply_eq_imp_iff₂, decide_eq_true_eq, Function.comp]
  refine ⟨⟨fun p _ => ⟨by simp [pairD, kfSum, py0, py0s], by rw [e]; simp [PyData.depth, PyData.depthAll]⟩, fun p _ q _ => by rw [e, e]; simp [PySem.W.alike, PySem.W.alikeAll]⟩, .inl fun p _ => rfl⟩
theorem sortK_steps {S : Store} {l : List P2} (hl : l.length ≤ 1000000) : sortK false kfSum okSum (.lst (l.map pairD)) S = some (.lst ((sortS l).map pairD), S) := by
  unfold sortK itemsOf
  have e : dctOf S (.lst (l.map pairD)) = none := rfl
  have e2 : readOf S (.lst (l.map pairD)) = some (l.map pairD) := rfl
  have ha : (l.map pairD).all okSum = true := by
    rw [List.all_eq_true]
    intro d hd
    obtain ⟨x, hx, rfl⟩ := List.mem_map.mp hd
    rfl
  simp only [e, e2, Option.bind_some]
  rw [if_pos ⟨ha, sortOk_steps l⟩, sortS_D, newL_f (by rw [List.length_map, sortS, List.length_mergeSort]; exact size_le hl)]
def keepS (kept : List P2) (s : P2) : List P2 := if s ≠ (0, 0) ∧ howF ((0, 0), kept) s = none then kept ++ [s] else kept
def neededK (l : List P2) : List P2 := (sortS l).foldl keepS []
def neededL (l : List P2) : List P2 := sortP (neededK l)
/-- numbers from nought to a greatest one -/
def boxS (m : Int) (l : List P2) : Prop := ∀ p ∈ l, (0 ≤ p.1 ∧ p.1 ≤ m) ∧ 0 ≤ p.2 ∧ p.2 ≤ m
def okNeed (l : List P2) : Prop := l.length ≤ 60 ∧ boxS 300 l
noncomputable def p_needed : List D → M D := pureP (fun x : Bool × List P2 => [if x.1 then .lst (x.2.map pairD) else .tup (x.2.map pairD)]) (fun x => okNeed x.2) fun x => .tup ((neededL x.2).map pairD)
theorem encB_inj (a b : Bool × List P2) (h : [if a.1 then D.lst (a.2.map pairD) else .tup (a.2.map pairD)] = [if b.1 then D.lst (b.2.map pairD) else .tup (b.2.map pairD)]) : a = b := by
  obtain ⟨a1, a2⟩ := a
  obtain ⟨b1, b2⟩ := b
  simp only [List.cons.injEq, and_true] at h
  cases a1 <;> cases b1 <;> simp at h
  · rw [pairL_inj h]
  · rw [pairL_inj h]
theorem needed_t {l : List P2} (h : okNeed l) (S : Store) : p_needed [.tup (l.map pairD)] S = some (.tup ((neededL l).map pairD), S) := pureP_r (enc := fun x : Bool × List P2 => [if x.1 then D.lst (x.2.map pairD) else .tup (x.2.map pairD)]) encB_inj (a := (false, l)) h S
theorem needed_l {l : List P2} (h : okNeed l) (S : Store) : p_needed [.lst (l.map pairD)] S = some (.tup ((neededL l).map pairD), S) := pureP_r (enc := fun x : Bool × List P2 => [if x.1 then D.lst (x.2.map pairD) else .tup (x.2.map pairD)]) encB_inj (a := (true, l)) h S
/-- needed: 0 steps, 1 kept, 2 step -/
noncomputable def l1_needed : MS := (sIf (tAndD (tOf (eBin (opEq true) (eV 2) (eTup (aCons (eC (.int 0)) (aCons (eC (.int 0)) aNil))))) (tOf (eBin (opIs false) (eCall 2 p_how_in (aCons (eTup (aCons (eTup (aCons (eC (.int 0)) (aCons (eC (.int 0)) aNil))) (aCons (eFn fTuple (aCons (eV 1) aNil)) aNil))) (aCons (eV 2) aNil))) (eC .non)))) (sDrop (eMeth "list" mAppend (eV 1) (aCons (eV 2) aNil))) sNx)
noncomputable def b_needed : MS := (sSeq (sAsg (eLst true aNil) (gN 1)) (sSeq (sFor (iSeq (eSortK false kfSum okSum (eFn (fList false) (aCons (eV 0) aNil)))) (gN 2) l1_needed) (sRet (eFn fTuple (aCons (eFn (fSorted false) (aCons (eV 1) aNil)) aNil)))))
noncomputable def g_needed : List D → M D := runDef 3 b_needed
/-- what the keeping keeps -/
theorem keepS_facts {m : Int} : ∀ (l kept : List P2), boxS m l → boxS m kept → goodSt kept → boxS m (l.foldl keepS kept) ∧ goodSt (l.foldl keepS kept) ∧ (l.foldl keepS kept).length ≤ kept.length + l.length
  | [], kept, _, h2, h3 => ⟨h2, h3, Nat.le_refl _⟩
  | s :: l, kept, h1, h2, h3 => by
    have hs := h1 s List.mem_cons_self
    have hl : boxS m l := fun p hp => h1 p (List.mem_cons_of_mem _ hp)
    rw [List.foldl_cons]
    by_cases hc : s ≠ (0, 0) ∧ howF ((0, 0), kept) s = none
    · have e : keepS kept s = kept ++ [s] := if_pos hc
      rw [e]
      obtain ⟨a, b, c⟩ := keepS_facts l (kept ++ [s]) hl (fun p hp => by
        rcases List.mem_append.mp hp with hp | hp
        · exact h2 p hp
        · rw [List.mem_singleton.mp hp]; exact hs) (fun p hp => by
        rcases List.mem_append.mp hp with hp | hp
        · exact h3 p hp
        · rw [List.mem_singleton.mp hp]; exact ⟨hs.1.1, hs.2.1, hc.1⟩)
      rw [List.length_append, List.length_singleton] at c
      exact ⟨a, b, by rw [List.length_cons]; omega⟩
    · have e : keepS kept s = kept := if_neg hc
      rw [e]
      obtain ⟨a, b, c⟩ := keepS_facts l kept hl h2 h3
      exact ⟨a, b, by rw [List.length_cons]; omega⟩
theorem okHow_box {st : List P2} {c : P2} (h1 : goodSt st) (h2 : st.length ≤ 60) (h3 : (0 ≤ c.1 ∧ c.1 ≤ 400) ∧ 0 ≤ c.2 ∧ c.2 ≤ 400) {b : P2} (hb : 0 ≤ b.1 ∧ 0 ≤ b.2) : okHow ((b, st), c) := by
  refine ⟨h1, h2, ?_⟩
  dsimp only
  have a1 : (c.1 - b.1).toNat + 1 ≤ 401 := by omega
  have a2 : (c.2 - b.2).toNat + 1 ≤ 401 := by omega
  have a3 : st.length + 1 ≤ 61 := by omega
  have := Nat.mul_le_mul (Nat.mul_le_mul a3 a1) a2
  omega
theorem need_loop {x0 : Option D} {q : Nat} : ∀ (l kept : List P2) (x2 : Option D) (T : Store), T[q]? = some (.lst (kept.map pairD)) → boxS 300 l → boxS 300 kept → goodSt kept → kept.length + l.length ≤ 60 →
    ∃ x2', forL gYes (gN 2) l1_needed (l.map pairD) [x0, some (.ref q), x2] T = some (.nx [x0, some (.ref q), x2'] (T.set q (.lst ((l.foldl keepS kept).map pairD))))
  | [], kept, x2, T, h, _, _, _, _ => ⟨x2, by rw [List.map_nil, forL, if_pos (gYes_r (S := T)), List.foldl_nil, set_same h]⟩
  | s :: l, kept, x2, T, h, h1, h2, h3, h4 => by
    rw [List.length_cons] at h4
    have hs := h1 s List.mem_cons_self
    have hl : boxS 300 l := fun p hp => h1 p (List.mem_cons_of_mem _ hp)
    have htyp : typD T (.ref q) = "list" := by simp [typD, h]
    have htup : fTuple [.ref q] T = some (.tup (kept.map pairD), T) := by simp [fTuple, readOf, listOf, h]
    have hz : opEq true (pairD s) (.tup [.int 0, .int 0]) T = some (.bl (true != decide (s = (0, 0))), T) := opEq_e (α := P2) true s (0, 0) (S := T)
    have hh : p_how_in [.tup [.tup [.int 0, .int 0], .tup (kept.map pairD)], pairD s] T = some (resD (howF ((0, 0), kept) s), T) := how_in_r (f := ((0, 0), kept)) (okHow_box h3 (by omega) ⟨⟨hs.1.1, by omega⟩, hs.2.1, by omega⟩ ⟨by decide, by decide⟩) T
    rw [List.map_cons, List.foldl_cons]
    by_cases hc : s ≠ (0, 0) ∧ howF ((0, 0), kept) s = none
    · have e : keepS kept s = kept ++ [s] := if_pos hc
      have happ : mAppend (.ref q) [pairD s] T = some (.non, T.set q (.lst ((kept ++ [s]).map pairD))) := by
        unfold mAppend
        simp only [h]
        rw [if_pos (by rw [List.length_map, sizeLine_eq]; omega), List.map_append]; rfl
      obtain ⟨x2', ih⟩ := need_loop (x0 := x0) l (kept ++ [s]) (some (pairD s)) (T.set q (.lst ((kept ++ [s]).map pairD))) (set_get h) hl (fun p hp => by
        rcases List.mem_append.mp hp with hp | hp
        · exact h2 p hp
        · rw [List.mem_singleton.mp hp]; exact hs) (fun p hp => by
        rcases List.mem_append.mp hp with hp | hp
        · exact h3 p hp
        · rw [List.mem_singleton.mp hp]; exact ⟨hs.1.1, hs.2.1, hc.1⟩) (by rw [List.length_append, List.length_singleton]; omega)
      refine ⟨x2', ?_⟩
      rw [set_set'] at ih
      rw [e, ← ih]
      rw [hc.2] at hh
      have hne : decide (s = (0, 0)) = false := decide_eq_false hc.1
      rw [hne] at hz
      simp only [forL, gYes_r, if_true, gN, Option.bind_some, l1_needed]
      generalize (kept ++ [s]).map pairD = w at *
      generalize kept.map pairD = v at *
      simp [hz, htup, hh, resD, happ, opIs, htyp]
    · have e : keepS kept s = kept := if_neg hc
      obtain ⟨x2', ih⟩ := need_loop (x0 := x0) l kept (some (pairD s)) T h hl h2 h3 (by omega)
      refine ⟨x2', ?_⟩
      rw [e, ← ih]
      simp only [forL, gYes_r, if_true, gN, Option.bind_some, l1_needed]
      by_cases h0 : s = (0, 0)
      · have hne : decide (s = (0, 0)) = true := decide_eq_true h0
        rw [hne] at hz
        generalize kept.map pairD = v at *
        simp [hz]
      · have hne : decide (s = (0, 0)) = false := decide_eq_false h0
        rw [hne] at hz
        cases hw : howF ((0, 0), kept) s with
        | none => exact absurd ⟨h0, hw⟩ hc
        | some ts =>
          rw [hw] at hh
          generalize kept.map pairD = v at *
          simp [hz, htup, hh, resD, opIs]
theorem mem_sortS {l : List P2} {p : P2} : p ∈ sortS l ↔ p ∈ l := List.mem_mergeSort
theorem r_needed : Refines g_needed p_needed := refines_pure (fun x h S => by
  obtain ⟨bb, l⟩ := x
  dsimp only at h ⊢
  have hbox : boxS 300 (sortS l) := fun p hp => h.2 p (mem_sortS.mp hp)
  have hlen : (sortS l).length = l.length := List.length_mergeSort l
  obtain ⟨x2', e1⟩ := need_loop (x0 := some (if bb then .lst (l.map pairD) else .tup (l.map pairD))) (q := S.length) (sortS l) [] none (S ++ [Cell.lst []]) at_len hbox (fun p hp => by cases hp) (fun p hp => by cases hp) (by have := h.1; simp only [List.length_nil]; omega)
  rw [set_len] at e1
  have hk := (keepS_facts (m := 300) (sortS l) [] hbox (fun p hp => by cases hp) (fun p hp => by cases hp)).2.2
  rw [List.length_nil, Nat.zero_add, hlen] at hk
  have hK : (sortS l).foldl keepS [] = neededK l := rfl
  rw [hK] at e1 hk
  have hat : (S ++ [Cell.lst ((neededK l).map pairD)])[S.length]? = some (.lst ((neededK l).map pairD)) := at_len
  have hso : fSorted false [.ref S.length] (S ++ [Cell.lst ((neededK l).map pairD)]) = some (.lst ((neededL l).map pairD), S ++ [Cell.lst ((neededK l).map pairD)]) := by
    unfold fSorted itemsOf
    have e : dctOf (S ++ [Cell.lst ((neededK l).map pairD)]) (.ref S.length) = none := by simp only [dctOf, hat]
    have e2 : readOf (S ++ [Cell.lst ((neededK l).map pairD)]) (.ref S.length) = some ((neededK l).map pairD) := by simp only [readOf, listOf, hat]
    simp only [e, e2, Option.bind_some]
    rw [if_pos (sortOk_pairs _), sortD_pairs, newL_f (by rw [List.length_map, sortP, List.length_mergeSort]; exact size_le (by have := h.1; omega))]
    rfl
  have hsk := sortK_steps (S := S ++ [Cell.lst []]) (l := l) (by have := h.1; omega)
  have hli : fList false [if bb = true then D.lst (l.map pairD) else .tup (l.map pairD)] (S ++ [Cell.lst []]) = some (.lst (l.map pairD), S ++ [Cell.lst []]) := by
    have : newL false (l.map pairD) (S ++ [Cell.lst []]) = some (.lst (l.map pairD), S ++ [Cell.lst []]) := newL_f (by rw [List.length_map]; exact size_le (by have := h.1; omega))
    cases bb <;> simp [fList, readOf, listOf, this]
  refine ⟨[Cell.lst ((neededK l).map pairD)], ?_⟩
  have body : b_needed [some (if bb = true then D.lst (l.map pairD) else .tup (l.map pairD)), none, none] S = some (.rt (.tup ((neededL l).map pairD)) (S ++ [Cell.lst ((neededK l).map pairD)])) := by
    unfold b_needed
    refine (seq_nx (ρ1 := [some (if bb = true then D.lst (l.map pairD) else .tup (l.map pairD)), some (.ref S.length), none]) (S1 := S ++ [Cell.lst []]) rfl).trans ?_
    refine (seq_nx (ρ1 := [some (if bb = true then D.lst (l.map pairD) else .tup (l.map pairD)), some (.ref S.length), x2']) (S1 := S ++ [Cell.lst ((neededK l).map pairD)]) ?_).trans ?_
    · rw [← e1]
      generalize (sortS l).map pairD = w at *
      generalize (if bb = true then D.lst (l.map pairD) else .tup (l.map pairD)) = z at *
      simp [eSortK, hli, hsk]
    · generalize (neededL l).map pairD = w at *
      generalize S ++ [Cell.lst ((neededK l).map pairD)] = T at *
      simp [hso]
  show (b_needed [some (if bb = true then D.lst (l.map pairD) else .tup (l.map pairD)), none, none] S).bind Res.out = _
  rw [body]
  rfl) fun x h n => low_noB _ (by rw [D.noB]; exact noBs_map _ fun p _ => noB_pair p)
end Ev
end L2

namespace L2
namespace Ev
open PyProof.Rows PySem.Spec PySem L2
variable [Tb]
/-! ### sums of steps, as sets -/
abbrev Gn (st : List P2) (c : P2) : Prop := Rch st (0, 0) c
theorem rch_shift {st : List P2} {b c : P2} : Rch st b c ↔ ∃ x, Gn st x ∧ c = addP b x := by
  constructor
  · intro h
    induction h with
    | base => exact ⟨(0, 0), .base, (addP_zero b).symm⟩
    | step _ hs ih =>
      obtain ⟨x, hx, rfl⟩ := ih
      exact ⟨addP x _, .step hx hs, addP_assoc _ _ _⟩
  · rintro ⟨x, hx, rfl⟩
    induction hx with
    | base => rw [addP_zero]; exact .base
    | step _ hs ih => rw [← addP_assoc]; exact .step ih hs
theorem gn_mem {st : List P2} {s : P2} (h : s ∈ st) : Gn st s := by
  have := Rch.step (st := st) (b := (0, 0)) .base h
  rwa [zero_addP] at this
theorem gn_add {st : List P2} {x y : P2} (hx : Gn st x) (hy : Gn st y) : Gn st (addP x y) := by
  induction hy with
  | base => rw [addP_zero]; exact hx
  | step _ hs ih => rw [← addP_assoc]; exact .step ih hs
theorem gn_mono {st st' : List P2} (h : ∀ s ∈ st, Gn st' s) {c : P2} (hc : Gn st c) : Gn st' c := by
  induction hc with
  | base => exact .base
  | step _ hs ih => exact gn_add ih (h _ hs)
theorem fan_iff {f : Fan} {c : P2} : fanHas f c ↔ ∃ x, Gn f.2 x ∧ c = addP f.1 x := by rw [fanHas_iff, rch_shift]
theorem how_gn {st : List P2} {s : P2} {ts : List Int} (h : howF ((0, 0), st) s = some ts) : Gn st s := by
  have : fanHas ((0, 0), st) s := ⟨ts, howF_some h⟩
  obtain ⟨x, hx, e⟩ := fan_iff.mp this
  rw [e, zero_addP]; exact hx
theorem keep_mono {p : P2} : ∀ (l kept : List P2), p ∈ kept → p ∈ l.foldl keepS kept
  | [], _, h => h
  | s :: l, kept, h => keep_mono l _ (by unfold keepS; split <;> simp [h])
theorem keep_sub {p : P2} : ∀ (l kept : List P2), p ∈ l.foldl keepS kept → p ∈ kept ∨ p ∈ l
  | [], _, h => .inl h
  | s :: l, kept, h => by
    rcases keep_sub l _ h with h | h
    · unfold keepS at h
      split at h
      · rcases List.mem_append.mp h with h | h
        · exact .inl h
        · rw [List.mem_singleton.mp h]; exact .inr List.mem_cons_self
      · exact .inl h
    · exact .inr (List.mem_cons_of_mem _ h)
theorem keep_gen : ∀ (l kept : List P2), ∀ s ∈ l, Gn (l.foldl keepS kept) s
  | [], _, _, h => by cases h
  | t :: l, kept, s, h => by
    rw [List.foldl_cons]
    rcases List.mem_cons.mp h with rfl | h
    · have low : Gn (keepS kept s) s := by
        unfold keepS
        split
        · exact gn_mem (by simp)
        · rename_i hc
          by_cases h0 : s = (0, 0)
          · rw [h0]; exact .base
          · cases hw : howF ((0, 0), kept) s with
            | none => exact absurd ⟨h0, hw⟩ hc
            | some ts => exact how_gn hw
      exact gn_mono (fun x hx => gn_mem (keep_mono l _ hx)) low
    · exact keep_gen l _ s h
theorem mem_neededL {l : List P2} {p : P2} : p ∈ neededL l ↔ p ∈ neededK l := List.mem_mergeSort
theorem needed_gn {l : List P2} {c : P2} : Gn (neededL l) c ↔ Gn l c := by
  constructor
  · refine gn_mono fun s hs => gn_mem ?_
    rcases keep_sub _ _ (mem_neededL.mp hs) with h | h
    · cases h
    · exact mem_sortS.mp h
  · refine gn_mono fun s hs => ?_
    exact gn_mono (fun x hx => gn_mem (mem_neededL.mpr hx)) (keep_gen (sortS l) [] s (mem_sortS.mpr hs))
theorem needed_facts {m : Int} {l : List P2} (h : boxS m l) : boxS m (neededL l) ∧ goodSt (neededL l) ∧ (neededL l).length ≤ l.length := by
  have hlen : (sortS l).length = l.length := List.length_mergeSort l
  obtain ⟨a, b, c⟩ := keepS_facts (m := m) (sortS l) [] (fun p hp => h p (mem_sortS.mp hp)) (fun p hp => by cases hp) (fun p hp => by cases hp)
  refine ⟨fun p hp => a p (mem_neededL.mp hp), fun p hp => b p (mem_neededL.mp hp), ?_⟩
  rw [List.length_nil, Nat.zero_add, hlen] at c
  unfold neededL sortP
  rw [List.length_mergeSort]; exact c
/-! ### fans that lie in others, fans trimmed -/
def liesB (f o : Fan) : Bool := (howF o f.1).isSome && f.2.all fun s => (howF ((0, 0), o.2) s).isSome
theorem lies_has {f o : Fan} (h : liesB f o = true) {c : P2} (hc : fanHas f c) : fanHas o c := by
  unfold liesB at h
  rw [Bool.and_eq_true, List.all_eq_true] at h
  obtain ⟨ts, hb⟩ := Option.isSome_iff_exists.mp h.1
  have hbase : fanHas o f.1 := ⟨ts, howF_some hb⟩
  obtain ⟨x, hx, e1⟩ := fan_iff.mp hbase
  obtain ⟨y, hy, e2⟩ := fan_iff.mp hc
  refine fan_iff.mpr ⟨addP x y, gn_add hx (gn_mono (fun s hs => ?_) hy), by rw [e2, e1, addP_assoc]⟩
  obtain ⟨us, hu⟩ := Option.isSome_iff_exists.mp (h.2 s hs)
  exact how_gn hu
def trimS (kept : List Fan) (f : Fan) : List Fan := if kept.any (fun o => liesB f o) then kept else (kept.filter fun o => !liesB o f) ++ [f]
def has (sp : List Fan) (c : P2) : Prop := ∃ f ∈ sp, fanHas f c
theorem trimS_has {kept : List Fan} {f : Fan} {c : P2} : has (trimS kept f) c ↔ has kept c ∨ fanHas f c := by
  unfold trimS
  split
  · rename_i h
    obtain ⟨o, ho, hl⟩ := List.any_eq_true.mp h
    exact ⟨.inl, fun z => z.elim id fun hf => ⟨o, ho, lies_has hl hf⟩⟩
  · constructor
    · rintro ⟨g, hg, hc⟩
      rcases List.mem_append.mp hg with hg | hg
      · exact .inl ⟨g, (List.mem_filter.mp hg).1, hc⟩
      · rw [List.mem_singleton.mp hg] at hc; exact .inr hc
    · rintro (⟨g, hg, hc⟩ | hc)
      · by_cases hl : liesB g f = true
        · exact ⟨f, by simp, lies_has hl hc⟩
        · exact ⟨g, List.mem_append_left _ (List.mem_filter.mpr ⟨hg, by simp [hl]⟩), hc⟩
      · exact ⟨f, by simp, hc⟩
theorem trim_has {c : P2} : ∀ (fs kept : List Fan), has (fs.foldl trimS kept) c ↔ has kept c ∨ has fs c
  | [], kept => by simp [has]
  | f :: fs, kept => by
    rw [List.foldl_cons, trim_has fs, trimS_has, or_assoc]
    refine or_congr Iff.rfl ?_
    constructor
    · rintro (h | ⟨g, hg, h⟩)
      · exact ⟨f, List.mem_cons_self, h⟩
      · exact ⟨g, List.mem_cons_of_mem _ hg, h⟩
    · rintro ⟨g, hg, h⟩
      rcases List.mem_cons.mp hg with rfl | hg
      · exact .inl h
      · exact .inr ⟨g, hg, h⟩
theorem trim_sub {f : Fan} : ∀ (fs kept : List Fan), f ∈ fs.foldl trimS kept → f ∈ kept ∨ f ∈ fs
  | [], _, h => .inl h
  | g :: fs, kept, h => by
    rcases trim_sub fs _ h with h | h
    · unfold trimS at h
      split at h
      · exact .inl h
      · rcases List.mem_append.mp h with h | h
        · exact .inl (List.mem_filter.mp h).1
        · rw [List.mem_singleton.mp h]; exact .inr List.mem_cons_self
    · exact .inr (List.mem_cons_of_mem _ h)
def leF (f g : Fan) : Bool := leD (fanD f) (fanD g)
def sortFn (l : List Fan) : List Fan := l.mergeSort leF
def trimL (fs : List Fan) : List Fan := sortFn (fs.foldl trimS [])
theorem trimL_has {fs : List Fan} {c : P2} : has (trimL fs) c ↔ has fs c := by
  have h := trim_has (c := c) fs []
  have e : has (trimL fs) c ↔ has (fs.foldl trimS []) c := by unfold has trimL sortFn; simp only [List.mem_mergeSort]
  rw [e, h]; simp [has]
theorem trimL_sub {fs : List Fan} {f : Fan} (h : f ∈ trimL fs) : f ∈ fs := by
  rcases trim_sub fs [] (List.mem_mergeSort.mp h) with h | h
  · cases h
  · exact h
/-! ### sums of spreads -/
def sumF (f g : Fan) : Fan := (addP f.1 g.1, neededL (f.2 ++ g.2))
theorem gn_app {a b : List P2} {c : P2} : Gn (a ++ b) c ↔ ∃ x y, Gn a x ∧ Gn b y ∧ c = addP x y := by
  constructor
  · intro h
    induction h with
    | base => exact ⟨(0, 0), (0, 0), .base, .base, rfl⟩
    | @step z s _ hs ih =>
      obtain ⟨x, y, hx, hy, rfl⟩ := ih
      rcases List.mem_append.mp hs with hs | hs
      · exact ⟨addP x s, y, .step hx hs, hy, by rw [addP_assoc, addP_assoc, addP_comm y s]⟩
      · exact ⟨x, addP y s, hx, .step hy hs, by rw [addP_assoc]⟩
  · rintro ⟨x, y, hx, hy, rfl⟩
    exact gn_add (gn_mono (fun s hs => gn_mem (List.mem_append_left _ hs)) hx) (gn_mono (fun s hs => gn_mem (List.mem_append_right _ hs)) hy)
theorem sumF_has {f g : Fan} {c : P2} : fanHas (sumF f g) c ↔ ∃ x y, fanHas f x ∧ fanHas g y ∧ c = addP x y := by
  have sw : ∀ a b x y : P2, addP (addP a b) (addP x y) = addP (addP a x) (addP b y) := fun a b x y => by simp only [addP]; ext <;> simp <;> omega
  rw [fan_iff]
  constructor
  · rintro ⟨z, hz, rfl⟩
    obtain ⟨x, y, hx, hy, rfl⟩ := gn_app.mp (needed_gn.mp hz)
    exact ⟨_, _, fan_iff.mpr ⟨x, hx, rfl⟩, fan_iff.mpr ⟨y, hy, rfl⟩, sw _ _ _ _⟩
  · rintro ⟨_, _, h1, h2, rfl⟩
    obtain ⟨x, hx, rfl⟩ := fan_iff.mp h1
    obtain ⟨y, hy, rfl⟩ := fan_iff.mp h2
    exact ⟨addP x y, needed_gn.mpr (gn_app.mpr ⟨x, y, hx, hy, rfl⟩), (sw _ _ _ _).symm⟩
def sumFans (one other : List Fan) : List Fan := one.flatMap fun f => other.map fun g => sumF f g
def sumSp (one other : List Fan) : List Fan := trimL (sumFans one other)
theorem sumSp_has {one other : List Fan} {c : P2} : has (sumSp one other) c ↔ ∃ x y, has one x ∧ has other y ∧ c = addP x y := by
  unfold sumSp
  rw [trimL_has]
  constructor
  · rintro ⟨k, hk, hc⟩
    obtain ⟨f, hf, hk⟩ := List.mem_flatMap.mp hk
    obtain ⟨g, hg, rfl⟩ := List.mem_map.mp hk
    obtain ⟨x, y, hx, hy, e⟩ := sumF_has.mp hc
    exact ⟨x, y, ⟨f, hf, hx⟩, ⟨g, hg, hy⟩, e⟩
  · rintro ⟨x, y, ⟨f, hf, hx⟩, ⟨g, hg, hy⟩, e⟩
    exact ⟨sumF f g, List.mem_flatMap.mpr ⟨f, hf, List.mem_map.mpr ⟨g, hg, rfl⟩⟩, sumF_has.mpr ⟨x, y, hx, hy, e⟩⟩
/-! ### over and over -/
inductive Star (A : P2 → Prop) : P2 → Prop
  | zero : Star A (0, 0)
  | add {x y : P2} (h : Star A x) (k : A y) : Star A (addP x y)
theorem Star.app {A : P2 → Prop} {x y : P2} (hx : Star A x) (hy : Star A y) : Star A (addP x y) := by
  induction hy with
  | zero => rw [addP_zero]; exact hx
  | add _ k ih => rw [← addP_assoc]; exact .add ih k
theorem Star.mono {A B : P2 → Prop} (h : ∀ x, A x → Star B x) {c : P2} (hc : Star A c) : Star B c := by
  induction hc with
  | zero => exact .zero
  | add _ k ih => exact ih.app (h _ k)
theorem Star.one {A : P2 → Prop} {x : P2} (h : A x) : Star A x := by
  have := Star.add (A := A) .zero h
  rwa [zero_addP] at this
/-- nought, or a fan with its base among its steps -/
def moreSp (f : Fan) : List Fan := [((0, 0), []), (f.1, neededL (f.2 ++ [f.1]))]
theorem nofan {c : P2} : fanHas ((0, 0), []) c ↔ c = (0, 0) := by
  rw [fan_iff]
  constructor
  · rintro ⟨x, hx, rfl⟩
    cases hx with
    | base => rfl
    | step _ hs => cases hs
  · rintro rfl; exact ⟨(0, 0), .base, rfl⟩
theorem moreSp_has {f : Fan} {c : P2} : has (moreSp f) c ↔ Star (fanHas f) c := by
  have key : ∀ z, Gn (f.2 ++ [f.1]) z → ∃ y w, Star (fanHas f) y ∧ Gn f.2 w ∧ addP f.1 z = addP y (addP f.1 w) := fun z hz => by
    induction hz with
    | base => exact ⟨(0, 0), (0, 0), .zero, .base, by rw [zero_addP]⟩
    | @step z s _ hs ih =>
      obtain ⟨y, w, hy, hw, e⟩ := ih
      rcases List.mem_append.mp hs with hs | hs
      · exact ⟨y, addP w s, hy, .step hw hs, by rw [← addP_assoc, e, addP_assoc, addP_assoc]⟩
      · rw [List.mem_singleton.mp hs]
        exact ⟨addP y (addP f.1 w), (0, 0), .add hy (fan_iff.mpr ⟨w, hw, rfl⟩), .base, by rw [← addP_assoc, e, addP_zero]⟩
  have second : ∀ z, Gn (f.2 ++ [f.1]) z → has (moreSp f) (addP f.1 z) := fun z hz => ⟨(f.1, neededL (f.2 ++ [f.1])), by simp [moreSp], fan_iff.mpr ⟨z, needed_gn.mpr hz, rfl⟩⟩
  constructor
  · rintro ⟨g, hg, hc⟩
    rcases List.mem_cons.mp hg with rfl | hg
    · rw [nofan.mp hc]; exact .zero
    · rw [List.mem_singleton.mp hg] at hc
      obtain ⟨z, hz, rfl⟩ := fan_iff.mp hc
      obtain ⟨y, w, hy, hw, e⟩ := key z (needed_gn.mp hz)
      rw [e]
      exact .add hy (fan_iff.mpr ⟨w, hw, rfl⟩)
  · intro h
    induction h with
    | zero => exact ⟨((0, 0), []), by simp [moreSp], nofan.mpr rfl⟩
    | @add x y _ hy ih =>
      obtain ⟨w, hw, rfl⟩ := fan_iff.mp hy
      have hw' : Gn (f.2 ++ [f.1]) w := gn_mono (fun s hs => gn_mem (List.mem_append_left _ hs)) hw
      have hb : Gn (f.2 ++ [f.1]) f.1 := gn_mem (by simp)
      obtain ⟨g, hg, hx⟩ := ih
      rcases List.mem_cons.mp hg with rfl | hg
      · rw [nofan.mp hx, zero_addP]
        exact second w hw'
      · rw [List.mem_singleton.mp hg] at hx
        obtain ⟨z, hz, rfl⟩ := fan_iff.mp hx
        rw [addP_assoc]
        exact second _ (gn_add (needed_gn.mp hz) (gn_add hb hw'))
/-- over and over, fan by fan -/
def plainOf (sp : List Fan) : List P2 := (sp.filter fun f => f.2.isEmpty).map (·.1)
def oftenL (sp : List Fan) : List Fan := (sp.filter fun f => !f.2.isEmpty).foldl (fun A f => sumSp A (moreSp f)) [((0, 0), neededL (plainOf sp))]
theorem star_two {A B C : P2 → Prop} (h : ∀ c, C c ↔ A c ∨ B c) {c : P2} : Star C c ↔ ∃ x y, Star A x ∧ Star B y ∧ c = addP x y := by
  constructor
  · intro hc
    induction hc with
    | zero => exact ⟨(0, 0), (0, 0), .zero, .zero, rfl⟩
    | @add x y _ hy ih =>
      obtain ⟨u, v, hu, hv, rfl⟩ := ih
      rcases (h y).mp hy with hy | hy
      · exact ⟨addP u y, v, .add hu hy, hv, by rw [addP_assoc, addP_assoc, addP_comm v y]⟩
      · exact ⟨u, addP v y, hu, .add hv hy, by rw [addP_assoc]⟩
  · rintro ⟨x, y, hx, hy, rfl⟩
    exact (hx.mono fun z hz => .one ((h z).mpr (.inl hz))).app (hy.mono fun z hz => .one ((h z).mpr (.inr hz)))
theorem star_eq {A B : P2 → Prop} (h : ∀ c, A c ↔ B c) {c : P2} : Star A c ↔ Star B c := ⟨fun hc => hc.mono fun x hx => .one ((h x).mp hx), fun hc => hc.mono fun x hx => .one ((h x).mpr hx)⟩
theorem often_fold {c : P2} : ∀ (fs : List Fan) (A : List Fan) (B : P2 → Prop), (∀ c, has A c ↔ Star B c) → (has (fs.foldl (fun A f => sumSp A (moreSp f)) A) c ↔ Star (fun x => B x ∨ has fs x) c)
  | [], A, B, h => by
    rw [List.foldl_nil, h]
    exact star_eq fun x => by simp [has]
  | f :: fs, A, B, h => by
    rw [List.foldl_cons, often_fold fs (sumSp A (moreSp f)) (fun x => B x ∨ fanHas f x) fun z => by
      rw [sumSp_has, star_two (A := B) (B := fanHas f) fun _ => Iff.rfl]
      simp only [h, moreSp_has]]
    refine star_eq fun x => ?_
    rw [or_assoc]
    refine or_congr Iff.rfl ?_
    unfold has
    simp
theorem star_gn {st : List P2} {c : P2} : Gn st c ↔ Star (fun x => x ∈ st) c := by
  constructor
  · intro h
    induction h with
    | base => exact .zero
    | step _ hs ih => exact .add ih hs
  · intro h
    induction h with
    | zero => exact .base
    | add _ k ih => exact .step ih k
theorem oftenL_has {sp : List Fan} {c : P2} : has (oftenL sp) c ↔ Star (has sp) c := by
  unfold oftenL
  rw [often_fold _ _ (fun x => x ∈ plainOf sp) fun z => by
    unfold has
    simp only [List.mem_singleton, exists_eq_left, fan_iff, zero_addP, exists_eq_right']
    rw [needed_gn, star_gn]]
  refine star_eq fun x => ?_
  constructor
  · rintro (h | ⟨f, hf, h⟩)
    · obtain ⟨f, hf, rfl⟩ := List.mem_map.mp h
      obtain ⟨hf, he⟩ := List.mem_filter.mp hf
      exact ⟨f, hf, fan_iff.mpr ⟨(0, 0), .base, (addP_zero _).symm⟩⟩
    · exact ⟨f, (List.mem_filter.mp hf).1, h⟩
  · rintro ⟨f, hf, h⟩
    by_cases he : f.2.isEmpty = true
    · refine .inl (List.mem_map.mpr ⟨f, List.mem_filter.mpr ⟨hf, he⟩, ?_⟩)
      obtain ⟨b, st⟩ := f
      cases st with
      | cons _ _ => cases he
      | nil =>
        obtain ⟨z, hz, rfl⟩ := fan_iff.mp h
        cases hz with
        | base => exact (addP_zero b).symm
        | step _ hs => cases hs
    · exact .inr ⟨f, List.mem_filter.mpr ⟨hf, by simpa using he⟩, h⟩
end Ev
end L2

namespace L2
namespace Ev
open PyProof.Rows PySem.Spec PySem L2
variable [Tb]
open Enc (e)
theorem compL_enc {α : Type} (enc : α → D) {vs : List Nat} {tg : FG} {t : MT} {f : ME} {ρ : EnvD} {S : Store} (b : α → Bool) (h : α → D) : ∀ (xs : List α) (acc : List D),
    (∀ a ∈ xs, ∃ ρ1, tg (enc a) (wipeD ρ vs) = some ρ1 ∧ t ρ1 S = some (b a, S) ∧ (b a = true → f ρ1 S = some (h a, S))) → acc.length + xs.length ≤ sizeLine → compL gYes vs tg t f (xs.map enc) ρ S acc = some (acc ++ (xs.filter b).map h, S)
  | [], acc, _, _ => by simp [compL]
  | a :: xs, acc, hx, hl => by
    obtain ⟨ρ1, e1, e2, e3⟩ := hx a List.mem_cons_self
    have hl' : acc.length + (xs.length + 1) ≤ sizeLine := hl
    have rest := fun y hy => hx y (List.mem_cons_of_mem _ hy)
    rw [List.map_cons, compL, if_pos (gYes_r (S := S)), e1]
    simp only [Option.bind_some, e2]
    by_cases hb : b a = true
    · have ih := compL_enc enc b h xs (acc ++ [h a]) rest (by rw [List.length_append, List.length_singleton]; omega)
      rw [if_pos hb, e3 hb]
      simp only [Option.bind_some]
      rw [if_pos (by omega), ih, List.filter_cons_of_pos hb, List.map_cons, List.append_assoc]
      rfl
    · have ih := compL_enc enc b h xs acc rest (by omega)
      rw [if_neg hb, ih, List.filter_cons_of_neg hb]
theorem compL_all {α : Type} (enc : α → D) {vs : List Nat} {tg : FG} {f : ME} {ρ : EnvD} {S : Store} (h : α → D) (xs : List α)
    (hx : ∀ a ∈ xs, ∃ ρ1, tg (enc a) (wipeD ρ vs) = some ρ1 ∧ f ρ1 S = some (h a, S)) (hl : xs.length ≤ 1000000) : compL gYes vs tg tTrue f (xs.map enc) ρ S [] = some (xs.map h, S) := by
  rw [compL_enc enc (fun _ => true) h xs [] (fun a ha => by obtain ⟨ρ1, e1, e2⟩ := hx a ha; exact ⟨ρ1, e1, rfl, fun _ => e2⟩) (by rw [List.length_nil, Nat.zero_add]; exact size_le hl), List.nil_append, List.filter_eq_self.mpr fun _ _ => rfl]
theorem fAll_map {α : Type} (b : α → Bool) (xs : List α) (S : Store) : fAll [.lst (xs.map fun a => D.bl (b a))] S = some (.bl (xs.all b), S) := by
  unfold fAll
  have : (xs.map fun a => D.bl (b a)) = (xs.map b).map D.bl := by rw [List.map_map]; rfl
  simp only [readOf, listOf, Option.bind_some]
  rw [this, blsOf_map]
  simp [List.all_map]
theorem fAny_map {α : Type} (b : α → Bool) (xs : List α) (S : Store) : fAny [.lst (xs.map fun a => D.bl (b a))] S = some (.bl (xs.any b), S) := by
  unfold fAny
  have : (xs.map fun a => D.bl (b a)) = (xs.map b).map D.bl := by rw [List.map_map]; rfl
  simp only [readOf, listOf, Option.bind_some]
  rw [this, blsOf_map]
  simp [List.any_map]
def pbox (m : Int) (p : P2) : Prop := (0 ≤ p.1 ∧ p.1 ≤ m) ∧ 0 ≤ p.2 ∧ p.2 ≤ m
/-- a fan of nonnegative numbers that are not too great -/
structure okFn (f : Fan) : Prop where
  base : pbox 400 f.1
  box : boxS 300 f.2
  good : goodSt f.2
  len : f.2.length ≤ 60
noncomputable def p_lies_in : List D → M D := pureP (fun x : Fan × Fan => [fanD x.1, fanD x.2]) (fun x => okFn x.1 ∧ okFn x.2) fun x => .bl (liesB x.1 x.2)
theorem lies_in_r {f o : Fan} (h1 : okFn f) (h2 : okFn o) (S : Store) : p_lies_in [fanD f, fanD o] S = some (.bl (liesB f o), S) := pureP_r (enc := fun x : Fan × Fan => [fanD x.1, fanD x.2]) (fun a b e => by
  simp only [List.cons.injEq, and_true] at e
  exact Prod.ext (fanD_inj _ _ e.1) (fanD_inj _ _ e.2)) (a := (f, o)) ⟨h1, h2⟩ S
/-- lies_in: 0 fan, 1 other, 2 step -/
noncomputable def b_lies_in : MS := (sSeq (sIf (tOf (eBin (opIs false) (eCall 2 p_how_in (aCons (eV 1) (aCons (eBin opSub2 (eV 0) (eC (.int 0))) aNil))) (eC .non))) (sRet (eC (.bl false))) sNx) (sRet (eFn fAll (aCons (eLc false [2] (iSeq (eBin opSub2 (eV 0) (eC (.int 1)))) (gN 2) tTrue (eBin (opIs true) (eCall 2 p_how_in (aCons (eTup (aCons (eTup (aCons (eC (.int 0)) (aCons (eC (.int 0)) aNil))) (aCons (eBin opSub2 (eV 1) (eC (.int 1))) aNil))) (aCons (eV 2) aNil))) (eC .non))) aNil))))
noncomputable def g_lies_in : List D → M D := runDef 3 b_lies_in
theorem resD_is (neg : Bool) (o : Option (List Int)) (S : Store) : opIs neg (resD o) .non S = some (.bl (neg != o.isNone), S) := by
  cases o <;> cases neg <;> simp [resD, opIs]
theorem sub_f0 (f : Fan) (S : Store) : opSub2 (fanD f) (.int 0) S = some (pairD f.1, S) := by unfold fanD; rw [opSub2_tup, at0]; rfl
theorem sub_f1 (f : Fan) (S : Store) : opSub2 (fanD f) (.int 1) S = some (.tup (f.2.map pairD), S) := by unfold fanD; rw [opSub2_tup, at1]; rfl
theorem r_lies_in : Refines g_lies_in p_lies_in := refines_pure (fun x h S => ⟨[], by
  obtain ⟨f, o⟩ := x
  obtain ⟨h1, h2⟩ := h
  dsimp only at h1 h2 ⊢
  have s0 := sub_f0 f
  have s1 := sub_f1 f
  have s2 := sub_f1 o
  have hb : p_how_in [fanD o, pairD f.1] S = some (resD (howF o f.1), S) := how_in_r (okHow_box h2.good h2.len h1.base ⟨h2.base.1.1, h2.base.2.1⟩) S
  have hi := resD_is false (howF o f.1) S
  have hc : compL gYes [2] (gN 2) tTrue (eBin (opIs true) (eCall 2 p_how_in (aCons (eTup (aCons (eTup (aCons (eC (.int 0)) (aCons (eC (.int 0)) aNil))) (aCons (eBin opSub2 (eV 1) (eC (.int 1))) aNil))) (aCons (eV 2) aNil))) (eC .non)) (f.2.map pairD) [some (fanD f), some (fanD o), none] S [] = some (f.2.map fun s => D.bl (howF ((0, 0), o.2) s).isSome, S) := by
    refine compL_all pairD (fun s => D.bl (howF ((0, 0), o.2) s).isSome) f.2 (fun s hs => ⟨_, rfl, ?_⟩) (by have := h1.len; omega)
    have hbs := h1.box s hs
    have hw : p_how_in [.tup [.tup [.int 0, .int 0], .tup (o.2.map pairD)], pairD s] S = some (resD (howF ((0, 0), o.2) s), S) := how_in_r (f := ((0, 0), o.2)) (okHow_box h2.good h2.len ⟨⟨hbs.1.1, by omega⟩, hbs.2.1, by omega⟩ ⟨by decide, by decide⟩) S
    have hr := resD_is true (howF ((0, 0), o.2) s) S
    generalize o.2.map pairD = L at *
    simp [wipeD, s2, hw, hr]
  have hnl : newL false (f.2.map fun s => D.bl (howF ((0, 0), o.2) s).isSome) S = some (.lst (f.2.map fun s => D.bl (howF ((0, 0), o.2) s).isSome), S) := newL_f (by rw [List.length_map]; exact size_le (by have := h1.len; omega))
  have hall := fAll_map (fun s => (howF ((0, 0), o.2) s).isSome) f.2 S
  have hr : liesB f o = ((howF o f.1).isSome && f.2.all fun s => (howF ((0, 0), o.2) s).isSome) := rfl
  rw [hr]
  simp only [g_lies_in, runDef, b_lies_in]
  generalize (f.2.map fun s => D.bl (howF ((0, 0), o.2) s).isSome) = M2 at *
  generalize f.2.map pairD = L at *
  cases hw : howF o f.1 with
  | none =>
    rw [hw] at hb hi
    simp [s0, hb, hi]
  | some ts =>
    rw [hw] at hb hi
    simp [s0, s1, hb, hi, hc, hnl, hall]⟩) fun _ _ n => rfl
end Ev
end L2

namespace L2
namespace Ev
open PyProof.Rows PySem.Spec PySem L2
variable [Tb]
open Enc (e)
/-! ### sorting fans -/
def pdP (p : P2) : PyData := .tuple [.int p.1, .int p.2]
theorem py0s_pairs : ∀ l : List P2, py0s (l.map pairD) = some (l.map pdP)
  | [] => rfl
  | p :: l => by
    have h := py0s_pairs l
    have hp : py0 (pairD p) = some (pdP p) := by simp [pairD, py0, py0s, pdP]
    rw [List.map_cons, py0s, hp, h]; rfl
theorem py0_fan (f : Fan) : py0 (fanD f) = some (.tuple [pdP f.1, .tuple (f.2.map pdP)]) := by
  have h := py0s_pairs f.2
  have hp : py0 (pairD f.1) = some (pdP f.1) := by simp [pairD, py0, py0s, pdP]
  have ht : py0 (.tup (f.2.map pairD)) = some (.tuple (f.2.map pdP)) := by rw [py0, h]; rfl
  unfold fanD
  rw [py0, py0s, hp, py0s, ht, py0s]; rfl
theorem ordK_fan (f : Fan) : ordK (fanD f) = .tuple [pdP f.1, .tuple (f.2.map pdP)] := by unfold ordK; rw [py0_fan]; rfl
theorem depth_pdP : ∀ l : List P2, PyData.depthAll (l.map pdP) ≤ 2
  | [] => by simp [PyData.depthAll]
  | p :: l => by
    have := depth_pdP l
    have hp : (pdP p).depth ≤ 2 := by simp [pdP, PyData.depth, PyData.depthAll]
    simp only [List.map_cons, PyData.depthAll]; omega
theorem alike_pdP : ∀ l m : List P2, PySem.W.alikeAll (l.map pdP) (m.map pdP) = true
  | [], _ => by simp [PySem.W.alikeAll]
  | _ :: _, [] => by simp [PySem.W.alikeAll]
  | p :: l, q :: m => by
    have := alike_pdP l m
    simp [PySem.W.alikeAll, PySem.W.alike, pdP, this]
theorem sortOk_fans (l : List Fan) : sortOk (l.map fanD) = true := by
  unfold sortOk
  simp only [Bool.and_eq_true, Bool.or_eq_true, List.all_eq_true, List.mem_map, forall_exists_index, and_imp, forall_apply_eq_imp_iff₂, decide_eq_true_eq]
  refine ⟨⟨fun f _ => ⟨by rw [py0_fan]; rfl, ?_⟩, fun f _ g _ => ?_⟩, .inl fun f _ => rfl⟩
  · have h1 := depth_pdP f.2
    have hp : (pdP f.1).depth ≤ 2 := by simp [pdP, PyData.depth, PyData.depthAll]
    rw [ordK_fan]
    simp only [PyData.depth, PyData.depthAll]; omega
  · rw [ordK_fan, ordK_fan]
    have h := alike_pdP f.2 g.2
    simp [PySem.W.alike, PySem.W.alikeAll, h]
    try simp [pdP, PySem.W.alike, PySem.W.alikeAll]
theorem sortF_D (l : List Fan) : (l.map fanD).mergeSort leD = (sortFn l).map fanD := (List.map_mergeSort (r := leF) (s := leD) (f := fanD) (l := l) fun a _ b _ => rfl).symm
theorem fSorted_fans {S : Store} {l : List Fan} (hl : l.length ≤ 1000000) : fSorted false [.lst (l.map fanD)] S = some (.lst ((sortFn l).map fanD), S) := by
  unfold fSorted itemsOf
  have e : dctOf S (.lst (l.map fanD)) = none := rfl
  have e2 : readOf S (.lst (l.map fanD)) = some (l.map fanD) := rfl
  simp only [e, e2, Option.bind_some]
  rw [if_pos (sortOk_fans l), sortF_D, newL_f (by rw [List.length_map, sortFn, List.length_mergeSort]; exact size_le hl)]
def okTrim (fs : List Fan) : Prop := fs.length ≤ 1000 ∧ ∀ f ∈ fs, okFn f
noncomputable def p_trimmed : List D → M D := fun ds S => open Classical in if h : ∃ x : D × List Fan × (Store → Bool), ds = [x.1] ∧ seqW x.1 S = some ((x.2.1.map fanD, x.2.2), S) ∧ x.2.2 S = true ∧ okTrim x.2.1 then
  some (.tup ((trimL h.choose.2.1).map fanD), S) else none
theorem trimmed_r {d : D} {fs : List Fan} {g : Store → Bool} {S : Store} (h1 : seqW d S = some ((fs.map fanD, g), S)) (h2 : g S = true) (h3 : okTrim fs) : p_trimmed [d] S = some (.tup ((trimL fs).map fanD), S) := by
  unfold p_trimmed
  have hx : ∃ x : D × List Fan × (Store → Bool), [d] = [x.1] ∧ seqW x.1 S = some ((x.2.1.map fanD, x.2.2), S) ∧ x.2.2 S = true ∧ okTrim x.2.1 := ⟨(d, fs, g), rfl, h1, h2, h3⟩
  rw [dif_pos hx]
  obtain ⟨e1, e2, _, _⟩ := hx.choose_spec
  generalize hx.choose = x at e1 e2
  obtain ⟨d', fs', g'⟩ := x
  simp only [List.cons.injEq, and_true] at e1
  subst e1
  dsimp only at e2
  rw [h1] at e2
  have e3 : fs.map fanD = fs'.map fanD := congrArg (fun z : (List D × (Store → Bool)) × Store => z.1.1) (Option.some.inj e2)
  rw [map_inj fanD_inj e3]
theorem trimS_len (kept : List Fan) (f : Fan) : (trimS kept f).length ≤ kept.length + 1 := by
  unfold trimS
  split
  · omega
  · have := List.length_filter_le (fun o => !liesB o f) kept
    rw [List.length_append, List.length_singleton]; omega
theorem trimS_sub {kept : List Fan} {f g : Fan} (h : g ∈ trimS kept f) : g ∈ kept ∨ g = f := by
  unfold trimS at h
  split at h
  · exact .inl h
  · rcases List.mem_append.mp h with h | h
    · exact .inl (List.mem_filter.mp h).1
    · exact .inr (List.mem_singleton.mp h)
/-- trimmed: 0 fans, 1 kept, 2 fan, 3 other -/
noncomputable def l1_trimmed : MS := (sIf (tNotD (tOf (eFn fAny (aCons (eLc false [3] (iSeq (eV 1)) (gN 3) tTrue (eCall 2 p_lies_in (aCons (eV 2) (aCons (eV 3) aNil)))) aNil)))) (sAsg (eBin (opAdd false) (eLc false [3] (iSeq (eV 1)) (gN 3) (tNotD (tOf (eCall 2 p_lies_in (aCons (eV 3) (aCons (eV 2) aNil))))) (eV 3)) (eLst false (aCons (eV 2) aNil))) (gN 1)) sNx)
noncomputable def b_trimmed : MS := (sSeq (sAsg (eLst false aNil) (gN 1)) (sSeq (sFor (iSeq (eV 0)) (gN 2) l1_trimmed) (sRet (eFn fTuple (aCons (eFn (fSorted false) (aCons (eV 1) aNil)) aNil)))))
noncomputable def g_trimmed : List D → M D := runDef 4 b_trimmed
theorem trim_loop {x0 x3 : Option D} {gd : Store → Bool} {S : Store} (hg : gd S = true) : ∀ (fs kept : List Fan) (x2 : Option D), kept.length + fs.length ≤ 1000 → (∀ f ∈ fs, okFn f) → (∀ f ∈ kept, okFn f) →
    ∃ x2', forL gd (gN 2) l1_trimmed (fs.map fanD) [x0, some (.lst (kept.map fanD)), x2, x3] S = some (.nx [x0, some (.lst ((fs.foldl trimS kept).map fanD)), x2', x3] S)
  | [], kept, x2, _, _, _ => ⟨x2, by rw [List.map_nil, forL, if_pos hg, List.foldl_nil]⟩
  | f :: fs, kept, x2, hl, h1, h2 => by
    rw [List.length_cons] at hl
    have hf := h1 f List.mem_cons_self
    have h1' : ∀ f ∈ fs, okFn f := fun g hg => h1 g (List.mem_cons_of_mem _ hg)
    have hc1 : compL gYes [3] (gN 3) tTrue (eCall 2 p_lies_in (aCons (eV 2) (aCons (eV 3) aNil))) (kept.map fanD) [x0, some (.lst (kept.map fanD)), some (fanD f), x3] S [] = some (kept.map fun o => D.bl (liesB f o), S) :=
      compL_all fanD (fun o => D.bl (liesB f o)) kept (fun o ho => ⟨_, rfl, by simp [wipeD, lies_in_r hf (h2 o ho)]⟩) (by omega)
    have hc2 : compL gYes [3] (gN 3) (tNotD (tOf (eCall 2 p_lies_in (aCons (eV 3) (aCons (eV 2) aNil))))) (eV 3) (kept.map fanD) [x0, some (.lst (kept.map fanD)), some (fanD f), x3] S [] = some ((kept.filter fun o => !liesB o f).map fanD, S) := by
      rw [compL_enc fanD (fun o => !liesB o f) fanD kept [] (fun o ho => ⟨_, rfl, by simp [wipeD, lies_in_r (h2 o ho) hf], fun _ => rfl⟩) (by rw [List.length_nil, sizeLine_eq]; omega)]
      rfl
    have hn1 : newL false (kept.map fun o => D.bl (liesB f o)) S = some (.lst (kept.map fun o => D.bl (liesB f o)), S) := newL_f (by rw [List.length_map, sizeLine_eq]; omega)
    have hfl := List.length_filter_le (fun o => !liesB o f) kept
    have hn2 : newL false ((kept.filter fun o => !liesB o f).map fanD) S = some (.lst ((kept.filter fun o => !liesB o f).map fanD), S) := newL_f (by rw [List.length_map, sizeLine_eq]; omega)
    have hn3 : newL false ((kept.filter fun o => !liesB o f).map fanD ++ [fanD f]) S = some (.lst ((kept.filter fun o => !liesB o f).map fanD ++ [fanD f]), S) := newL_f (by rw [List.length_append, List.length_map, List.length_singleton, sizeLine_eq]; omega)
    have hany := fAny_map (fun o => liesB f o) kept S
    have hlt := trimS_len kept f
    obtain ⟨x2', ih⟩ := trim_loop (x0 := x0) (x3 := x3) hg fs (trimS kept f) (some (fanD f)) (by omega) h1' (fun g hg => by
      rcases trimS_sub hg with hg | rfl
      · exact h2 g hg
      · exact hf)
    refine ⟨x2', ?_⟩
    rw [List.map_cons, List.foldl_cons, ← ih]
    have body : l1_trimmed [x0, some (.lst (kept.map fanD)), some (fanD f), x3] S = some (.nx [x0, some (.lst ((trimS kept f).map fanD)), some (fanD f), x3] S) := by
      unfold l1_trimmed
      by_cases ha : kept.any (fun o => liesB f o) = true
      · have e : trimS kept f = kept := by unfold trimS; rw [if_pos ha]
        rw [e]
        rw [ha] at hany
        generalize (kept.map fun o => D.bl (liesB f o)) = M1 at *
        generalize kept.map fanD = M2 at *
        simp [hc1, hn1, hany]
      · have e : (trimS kept f).map fanD = (kept.filter fun o => !liesB o f).map fanD ++ [fanD f] := by unfold trimS; rw [if_neg ha, List.map_append]; rfl
        rw [e]
        rw [Bool.not_eq_true] at ha
        rw [ha] at hany
        generalize (kept.map fun o => D.bl (liesB f o)) = M1 at *
        generalize (kept.filter fun o => !liesB o f).map fanD = M3 at *
        generalize kept.map fanD = M2 at *
        have hadd : opAdd false (.lst M3) (.lst [fanD f]) S = some (.lst (M3 ++ [fanD f]), S) := by simp [opAdd, listOf, hn3]
        simp [hc1, hn1, hany, hc2, hn2, hadd]
    rw [forL, if_pos hg]
    show (l1_trimmed [x0, some (.lst (kept.map fanD)), some (fanD f), x3] S).bind _ = _
    rw [body]; rfl
theorem trim_len : ∀ (fs kept : List Fan), (fs.foldl trimS kept).length ≤ kept.length + fs.length
  | [], kept => Nat.le_refl _
  | f :: fs, kept => by
    have h1 := trim_len fs (trimS kept f)
    have h2 := trimS_len kept f
    rw [List.foldl_cons, List.length_cons]; omega
theorem r_trimmed : Refines g_trimmed p_trimmed := fun ds S d S1 h => by
  unfold p_trimmed at h
  split at h
  · rename_i hx
    obtain ⟨h1, h2, h3, h4⟩ := hx.choose_spec
    cases h
    generalize hx.choose = x at h1 h2 h3 h4
    obtain ⟨d, fs, g⟩ := x
    dsimp only at h1 h2 h3 h4
    subst h1
    obtain ⟨x2', e1⟩ := trim_loop (x0 := some d) (x3 := none) h3 fs [] none (by have := h4.1; simpa using this) h4.2 (fun f hf => by cases hf)
    have hl := trim_len fs []
    have hso := fSorted_fans (S := S) (l := fs.foldl trimS []) (by have := h4.1; rw [List.length_nil] at hl; omega)
    have hT : sortFn (fs.foldl trimS []) = trimL fs := rfl
    rw [hT] at hso
    refine .inr ⟨[], [], by simp, ?_, low_noB _ (by rw [D.noB]; exact noBs_map _ fun f _ => noB_fan f), by simp⟩
    have e1' : forL g (gN 2) l1_trimmed (fs.map fanD) [some d, some (.lst []), none, none] S = _ := e1
    show g_trimmed [d] S = _
    simp only [g_trimmed, runDef, b_trimmed]
    generalize (fs.foldl trimS []).map fanD = M1 at *
    generalize fs.map fanD = M2 at *
    simp [h2, e1', hso]
  · cases h
end Ev
end L2

namespace L2
namespace Ev
open PyProof.Rows PySem.Spec PySem L2
variable [Tb]
open Enc (e)
/-! ### sums of spreads, as they run -/
def okSm (x : List Fan × List Fan) : Prop := x.1.length ≤ 1000 ∧ x.2.length ≤ 1000 ∧ x.1.length * x.2.length ≤ 1000 ∧ ∀ f ∈ x.1, ∀ g ∈ x.2, okNeed (f.2 ++ g.2) ∧ pbox 400 (addP f.1 g.1)
theorem sumF_ok {f g : Fan} (h : okNeed (f.2 ++ g.2) ∧ pbox 400 (addP f.1 g.1)) : okFn (sumF f g) := by
  obtain ⟨⟨h1, h2⟩, h3⟩ := h
  obtain ⟨a, b, c⟩ := needed_facts h2
  exact ⟨h3, a, b, Nat.le_trans c h1⟩
noncomputable def p_sums : List D → M D := pureP (fun x : List Fan × List Fan => [spreadD x.1, spreadD x.2]) okSm fun x => spreadD (sumSp x.1 x.2)
theorem sums_r {one other : List Fan} (h : okSm (one, other)) (S : Store) : p_sums [spreadD one, spreadD other] S = some (spreadD (sumSp one other), S) := pureP_r (enc := fun x : List Fan × List Fan => [spreadD x.1, spreadD x.2]) (fun a b e => by
  simp only [List.cons.injEq, and_true] at e
  exact Prod.ext (map_inj fanD_inj (D.tup.inj e.1)) (map_inj fanD_inj (D.tup.inj e.2))) (a := (one, other)) h S
/-- sums: 0 one, 1 other, 2 found, 3 base, 4 steps, 5 more, 6 others -/
noncomputable def l1_sums : MS := (sDrop (eMeth "list" mExtend (eV 2) (aCons (eLc false [5, 6] (iSeq (eV 1)) (gTupD 2 (gConsD (gN 5) (gConsD (gN 6) gNilD))) tTrue (eTup (aCons (eCall 2 p_added (aCons (eV 3) (aCons (eV 5) aNil))) (aCons (eCall 1 p_needed (aCons (eBin (opAdd false) (eV 4) (eV 6)) aNil)) aNil)))) aNil)))
noncomputable def b_sums : MS := (sSeq (sAsg (eLst true aNil) (gN 2)) (sSeq (sFor (iSeq (eV 0)) (gTupD 2 (gConsD (gN 3) (gConsD (gN 4) gNilD))) l1_sums) (sRet (eCall 1 p_trimmed (aCons (eV 2) aNil)))))
noncomputable def g_sums : List D → M D := runDef 7 b_sums
theorem sums_loop {x0 x5 x6 : Option D} {q : Nat} {other : List Fan} (ho : other.length ≤ 1000) : ∀ (fs acc : List Fan) (x3 x4 : Option D) (T : Store), T[q]? = some (.lst (acc.map fanD)) → acc.length + fs.length * other.length ≤ 2000 → (∀ f ∈ fs, ∀ g ∈ other, okNeed (f.2 ++ g.2) ∧ pbox 400 (addP f.1 g.1)) →
    ∃ x3' x4', forL gYes (gTupD 2 (gConsD (gN 3) (gConsD (gN 4) gNilD))) l1_sums (fs.map fanD) [x0, some (.tup (other.map fanD)), some (.ref q), x3, x4, x5, x6] T = some (.nx [x0, some (.tup (other.map fanD)), some (.ref q), x3', x4', x5, x6] (T.set q (.lst ((acc ++ sumFans fs other).map fanD))))
  | [], acc, x3, x4, T, h, _, _ => ⟨x3, x4, by rw [List.map_nil, forL, if_pos (gYes_r (S := T))]; simp only [sumFans, List.flatMap_nil, List.append_nil]; rw [set_same h]⟩
  | f :: fs, acc, x3, x4, T, h, hl, hk => by
    rw [List.length_cons, Nat.add_mul] at hl
    have hf := hk f List.mem_cons_self
    have hc : compL gYes [5, 6] (gTupD 2 (gConsD (gN 5) (gConsD (gN 6) gNilD))) tTrue (eTup (aCons (eCall 2 p_added (aCons (eV 3) (aCons (eV 5) aNil))) (aCons (eCall 1 p_needed (aCons (eBin (opAdd false) (eV 4) (eV 6)) aNil)) aNil))) (other.map fanD) [x0, some (.tup (other.map fanD)), some (.ref q), some (pairD f.1), some (.tup (f.2.map pairD)), x5, x6] T [] = some (other.map fun g => fanD (sumF f g), T) := by
      refine compL_all fanD (fun g => fanD (sumF f g)) other (fun g hg => ⟨[x0, some (.tup (other.map fanD)), some (.ref q), some (pairD f.1), some (.tup (f.2.map pairD)), some (pairD g.1), some (.tup (g.2.map pairD))], rfl, ?_⟩) (by omega)
      have hfg := hf g hg
      have hlen := hfg.1.1
      rw [List.length_append] at hlen
      have ha := added_r f.1 g.1 T
      have hn := needed_t hfg.1 T
      have hadd : opAdd false (.tup (f.2.map pairD)) (.tup (g.2.map pairD)) T = some (.tup ((f.2 ++ g.2).map pairD), T) := by
        unfold opAdd
        rw [List.map_append]
        exact if_pos (by rw [List.length_map, List.length_map, sizeLine_eq]; omega)
      have hr : fanD (sumF f g) = .tup [pairD (addP f.1 g.1), .tup ((neededL (f.2 ++ g.2)).map pairD)] := rfl
      rw [hr]
      generalize f.2.map pairD = L1 at *
      generalize g.2.map pairD = L2 at *
      generalize (f.2 ++ g.2).map pairD = L3 at *
      simp [ha, hadd, hn]
    have hnl : newL false (other.map fun g => fanD (sumF f g)) T = some (.lst (other.map fun g => fanD (sumF f g)), T) := newL_f (by rw [List.length_map, sizeLine_eq]; omega)
    have hext : mExtend (.ref q) [.lst (other.map fun g => fanD (sumF f g))] T = some (.non, T.set q (.lst ((acc ++ other.map fun g => sumF f g).map fanD))) := by
      unfold mExtend
      simp only [h, listOf, Option.bind_some]
      rw [if_pos (by rw [List.length_map, List.length_map, sizeLine_eq]; omega), List.map_append, List.map_map]; rfl
    have htyp : typD T (.ref q) = "list" := by simp [typD, h]
    obtain ⟨x3', x4', ih⟩ := sums_loop (x0 := x0) (x5 := x5) (x6 := x6) ho fs (acc ++ other.map fun g => sumF f g) (some (pairD f.1)) (some (.tup (f.2.map pairD))) (T.set q (.lst ((acc ++ other.map fun g => sumF f g).map fanD))) (set_get h) (by rw [List.length_append, List.length_map]; omega) (fun g hg => hk g (List.mem_cons_of_mem _ hg))
    refine ⟨x3', x4', ?_⟩
    rw [set_set'] at ih
    have e2 : sumFans (f :: fs) other = (other.map fun g => sumF f g) ++ sumFans fs other := by unfold sumFans; rw [List.flatMap_cons]
    rw [e2, ← List.append_assoc, ← ih, List.map_cons]
    have body : l1_sums [x0, some (.tup (other.map fanD)), some (.ref q), some (pairD f.1), some (.tup (f.2.map pairD)), x5, x6] T = some (.nx [x0, some (.tup (other.map fanD)), some (.ref q), some (pairD f.1), some (.tup (f.2.map pairD)), x5, x6] (T.set q (.lst ((acc ++ other.map fun g => sumF f g).map fanD)))) := by
      unfold l1_sums
      generalize (other.map fun g => fanD (sumF f g)) = M1 at *
      generalize (acc ++ other.map fun g => sumF f g).map fanD = M3 at *
      generalize other.map fanD = M2 at *
      generalize f.2.map pairD = M4 at *
      simp [hc, hnl, hext, htyp]
    rw [forL, if_pos (gYes_r (S := T))]
    show (l1_sums [x0, some (.tup (other.map fanD)), some (.ref q), some (pairD f.1), some (.tup (f.2.map pairD)), x5, x6] T).bind _ = _
    rw [body]; rfl
theorem sumFans_len (one other : List Fan) : (sumFans one other).length = one.length * other.length := by
  unfold sumFans
  induction one with
  | nil => simp
  | cons f one ih => rw [List.flatMap_cons, List.length_append, List.length_map, ih, List.length_cons, Nat.add_mul]; omega
theorem beqs_self : ∀ xs : List D, D.beqs xs xs = true := fun xs => (D.beqs_iff xs xs).mpr rfl
theorem r_sums : Refines g_sums p_sums := refines_pure (fun x h S => by
  obtain ⟨one, other⟩ := x
  obtain ⟨h1, h2, h3, h4⟩ := h
  dsimp only at h1 h2 h3 h4 ⊢
  obtain ⟨x3', x4', e1⟩ := sums_loop (x0 := some (.tup (one.map fanD))) (x5 := none) (x6 := none) (q := S.length) h2 one [] none none (S ++ [Cell.lst []]) at_len (by simp only [List.length_nil]; omega) h4
  rw [set_len, List.nil_append] at e1
  have hat : (S ++ [Cell.lst ((sumFans one other).map fanD)])[S.length]? = some (.lst ((sumFans one other).map fanD)) := at_len
  have hsq : seqW (.ref S.length) (S ++ [Cell.lst ((sumFans one other).map fanD)]) = some (((sumFans one other).map fanD, gOf (.ref S.length) ((sumFans one other).map fanD)), S ++ [Cell.lst ((sumFans one other).map fanD)]) := by
    simp only [seqW, readOf, listOf, hat, Option.map_some]
  have hgo : gOf (.ref S.length) ((sumFans one other).map fanD) (S ++ [Cell.lst ((sumFans one other).map fanD)]) = true := by
    simp only [gOf, hat]
    exact beqs_self _
  have ht := trimmed_r hsq hgo ⟨by rw [sumFans_len]; exact h3, fun k hk => by
    obtain ⟨f, hf, hk⟩ := List.mem_flatMap.mp hk
    obtain ⟨g, hg, rfl⟩ := List.mem_map.mp hk
    exact sumF_ok (h4 f hf g hg)⟩
  refine ⟨[Cell.lst ((sumFans one other).map fanD)], ?_⟩
  have body : b_sums [some (.tup (one.map fanD)), some (.tup (other.map fanD)), none, none, none, none, none] S = some (.rt (spreadD (sumSp one other)) (S ++ [Cell.lst ((sumFans one other).map fanD)])) := by
    unfold b_sums
    refine (seq_nx (ρ1 := [some (.tup (one.map fanD)), some (.tup (other.map fanD)), some (.ref S.length), none, none, none, none]) (S1 := S ++ [Cell.lst []]) rfl).trans ?_
    refine (seq_nx (ρ1 := [some (.tup (one.map fanD)), some (.tup (other.map fanD)), some (.ref S.length), x3', x4', none, none]) (S1 := S ++ [Cell.lst ((sumFans one other).map fanD)]) ?_).trans ?_
    · rw [← e1]; rfl
    · have hr : spreadD (sumSp one other) = .tup ((trimL (sumFans one other)).map fanD) := rfl
      rw [hr]
      generalize (trimL (sumFans one other)).map fanD = M1 at *
      generalize S ++ [Cell.lst ((sumFans one other).map fanD)] = T at *
      simp [ht]
  show (b_sums [some (.tup (one.map fanD)), some (.tup (other.map fanD)), none, none, none, none, none] S).bind Res.out = _
  rw [body]
  rfl) fun x h n => low_noB _ (by
    show D.noB (.tup _) = true
    rw [D.noB]; exact noBs_map _ fun f _ => noB_fan f)
end Ev
end L2

namespace L2
namespace Ev
open PyProof.Rows PySem.Spec PySem L2
variable [Tb]
open Enc (e)
/-! ### often, as it runs -/
def okOft (sp : List Fan) : Prop := sp.length ≤ 4 ∧ ∀ f ∈ sp, pbox 10 f.1 ∧ boxS 10 f.2 ∧ f.2.length ≤ 4
structure OftI (c k : Nat) (A : List Fan) : Prop where
  len : A.length ≤ 2 ^ k
  all : ∀ g ∈ A, pbox (10 * k) g.1 ∧ boxS 10 g.2 ∧ g.2.length ≤ c + 5 * k
theorem more_facts {f : Fan} (h : pbox 10 f.1 ∧ boxS 10 f.2 ∧ f.2.length ≤ 4) : okNeed (f.2 ++ [f.1]) ∧ ∀ m ∈ moreSp f, pbox 10 m.1 ∧ boxS 10 m.2 ∧ m.2.length ≤ 5 := by
  obtain ⟨h1, h2, h3⟩ := h
  have hb : boxS 10 (f.2 ++ [f.1]) := fun p hp => by
    rcases List.mem_append.mp hp with hp | hp
    · exact h2 p hp
    · rw [List.mem_singleton.mp hp]; exact h1
  have hl : (f.2 ++ [f.1]).length ≤ 5 := by rw [List.length_append, List.length_singleton]; omega
  obtain ⟨a, b, c⟩ := needed_facts hb
  refine ⟨⟨by omega, fun p hp => by have := hb p hp; omega⟩, fun m hm => ?_⟩
  rcases List.mem_cons.mp hm with rfl | hm
  · exact ⟨⟨⟨by decide, by decide⟩, by decide, by decide⟩, (fun p hp => by cases hp), Nat.zero_le _⟩
  · rw [List.mem_singleton.mp hm]
    exact ⟨h1, a, by dsimp only; omega⟩
theorem pbox_add {m n : Int} {p q : P2} (hp : pbox m p) (hq : pbox n q) : pbox (m + n) (addP p q) := by
  unfold pbox addP at *
  dsimp only
  omega
theorem boxS_app {m : Int} {a b : List P2} (ha : boxS m a) (hb : boxS m b) : boxS m (a ++ b) := fun p hp => by
  rcases List.mem_append.mp hp with hp | hp
  · exact ha p hp
  · exact hb p hp
theorem trimL_len (fs : List Fan) : (trimL fs).length ≤ fs.length := by
  have := trim_len fs []
  unfold trimL sortFn
  rw [List.length_mergeSort]
  simpa using this
theorem OftI.next {c k : Nat} {A : List Fan} (hc : c ≤ 4) (hk : k < 4) (h : OftI c k A) {f : Fan} (hf : pbox 10 f.1 ∧ boxS 10 f.2 ∧ f.2.length ≤ 4) : okSm (A, moreSp f) ∧ OftI c (k + 1) (sumSp A (moreSp f)) := by
  obtain ⟨h1, h2⟩ := more_facts hf
  have hA : A.length ≤ 16 := Nat.le_trans h.len (Nat.le_trans (Nat.pow_le_pow_right (by decide) (by omega : k ≤ 4)) (by decide))
  have hm : (moreSp f).length = 2 := rfl
  have hpow : 2 ^ (k + 1) = 2 * 2 ^ k := by rw [Nat.pow_succ, Nat.mul_comm]
  refine ⟨⟨by dsimp only; omega, by dsimp only; omega, by dsimp only; rw [hm]; omega, fun g hg m hm => ?_⟩, ?_, fun x hx => ?_⟩
  · obtain ⟨a1, a2, a3⟩ := h.all g hg
    obtain ⟨b1, b2, b3⟩ := h2 m hm
    have hp := pbox_add a1 b1
    refine ⟨⟨by rw [List.length_append]; omega, fun p hp => by have := boxS_app a2 b2 p hp; omega⟩, ?_⟩
    unfold pbox at hp ⊢
    omega
  · have h3 := trimL_len (sumFans A (moreSp f))
    rw [sumFans_len, hm] at h3
    have := h.len
    show (trimL (sumFans A (moreSp f))).length ≤ _
    omega
  · obtain ⟨g, hg, hx⟩ := List.mem_flatMap.mp (trimL_sub hx)
    obtain ⟨m, hm, rfl⟩ := List.mem_map.mp hx
    obtain ⟨a1, a2, a3⟩ := h.all g hg
    obtain ⟨b1, b2, b3⟩ := h2 m hm
    obtain ⟨c1, c2, c3⟩ := needed_facts (boxS_app a2 b2)
    rw [List.length_append] at c3
    refine ⟨?_, c1, by show (neededL (g.2 ++ m.2)).length ≤ _; omega⟩
    have hp := pbox_add a1 b1
    show pbox _ (addP g.1 m.1)
    unfold pbox at hp ⊢
    omega
noncomputable def p_often : List D → M D := pureP (fun x : List Fan => [spreadD x]) okOft fun x => spreadD (oftenL x)
theorem often_r {sp : List Fan} (h : okOft sp) (S : Store) : p_often [spreadD sp] S = some (spreadD (oftenL sp), S) := pureP_r (enc := fun x : List Fan => [spreadD x]) (fun a b e => by
  simp only [List.cons.injEq, and_true] at e
  exact map_inj fanD_inj (D.tup.inj e)) (a := sp) h S
/-- often: 0 spread, 1 plain, 2 base, 3 steps, 4 found, 5 fan -/
noncomputable def l1_often : MS := (sAsg (eCall 2 p_sums (aCons (eV 4) (aCons (eTup (aCons (eTup (aCons (eTup (aCons (eC (.int 0)) (aCons (eC (.int 0)) aNil))) (aCons (eTup aNil) aNil))) (aCons (eTup (aCons (eV 2) (aCons (eCall 1 p_needed (aCons (eBin (opAdd false) (eV 3) (eTup (aCons (eV 2) aNil))) aNil)) aNil))) aNil))) aNil))) (gN 4))
noncomputable def b_often : MS := (sSeq (sAsg (eFn fTuple (aCons (eLc false [2, 3] (iSeq (eV 0)) (gTupD 2 (gConsD (gN 2) (gConsD (gN 3) gNilD))) (tOf (eBin (opEq false) (eFn fLen (aCons (eV 3) aNil)) (eC (.int 0)))) (eV 2)) aNil)) (gN 1)) (sSeq (sAsg (eTup (aCons (eTup (aCons (eTup (aCons (eC (.int 0)) (aCons (eC (.int 0)) aNil))) (aCons (eCall 1 p_needed (aCons (eV 1) aNil)) aNil))) aNil)) (gN 4)) (sSeq (sFor (iSeq (eLc false [5] (iSeq (eV 0)) (gN 5) (tOf (eBin opGt (eFn fLen (aCons (eBin opSub2 (eV 5) (eC (.int 1))) aNil)) (eC (.int 0)))) (eV 5))) (gTupD 2 (gConsD (gN 2) (gConsD (gN 3) gNilD))) l1_often) (sRet (eV 4)))))
noncomputable def g_often : List D → M D := runDef 6 b_often
theorem often_loop {x0 x1 x5 : Option D} {S : Store} {c : Nat} (hc : c ≤ 4) : ∀ (fs A : List Fan) (k : Nat) (x2 x3 : Option D), k + fs.length ≤ 4 → OftI c k A → (∀ f ∈ fs, pbox 10 f.1 ∧ boxS 10 f.2 ∧ f.2.length ≤ 4) →
    (∃ x2' x3', forL gYes (gTupD 2 (gConsD (gN 2) (gConsD (gN 3) gNilD))) l1_often (fs.map fanD) [x0, x1, x2, x3, some (spreadD A), x5] S = some (.nx [x0, x1, x2', x3', some (spreadD (fs.foldl (fun A f => sumSp A (moreSp f)) A)), x5] S)) ∧ OftI c (k + fs.length) (fs.foldl (fun A f => sumSp A (moreSp f)) A)
  | [], A, k, x2, x3, _, hA, _ => ⟨⟨x2, x3, rfl⟩, hA⟩
  | f :: fs, A, k, x2, x3, hl, hA, hk => by
    rw [List.length_cons] at hl
    have hf := hk f List.mem_cons_self
    obtain ⟨h1, h2⟩ := hA.next hc (by omega) hf
    have hn := (more_facts hf).1
    have hnr := needed_t hn S
    have hsr := sums_r h1 S
    obtain ⟨⟨x2', x3', e1⟩, e2⟩ := often_loop (x0 := x0) (x1 := x1) (x5 := x5) (S := S) hc fs (sumSp A (moreSp f)) (k + 1) (some (pairD f.1)) (some (.tup (f.2.map pairD))) (by omega) h2 fun g hg => hk g (List.mem_cons_of_mem _ hg)
    refine ⟨⟨x2', x3', ?_⟩, by rw [List.length_cons, List.foldl_cons]; rw [show k + (fs.length + 1) = k + 1 + fs.length by omega]; exact e2⟩
    rw [List.map_cons, List.foldl_cons, ← e1]
    have hadd : opAdd false (.tup (f.2.map pairD)) (.tup [pairD f.1]) S = some (.tup ((f.2 ++ [f.1]).map pairD), S) := by
      unfold opAdd
      rw [List.map_append]
      exact if_pos (by have := hf.2.2; rw [List.length_map, List.length_singleton, sizeLine_eq]; omega)
    have hm : spreadD (moreSp f) = .tup [.tup [.tup [.int 0, .int 0], .tup []], .tup [pairD f.1, .tup ((neededL (f.2 ++ [f.1])).map pairD)]] := rfl
    rw [hm] at hsr
    have body : l1_often [x0, x1, some (pairD f.1), some (.tup (f.2.map pairD)), some (spreadD A), x5] S = some (.nx [x0, x1, some (pairD f.1), some (.tup (f.2.map pairD)), some (spreadD (sumSp A (moreSp f))), x5] S) := by
      unfold l1_often
      generalize spreadD (sumSp A (moreSp f)) = M0 at *
      generalize spreadD A = M1 at *
      generalize (neededL (f.2 ++ [f.1])).map pairD = M2 at *
      generalize (f.2 ++ [f.1]).map pairD = M3 at *
      generalize f.2.map pairD = M4 at *
      simp [hadd, hnr, hsr]
    rw [forL, if_pos (gYes_r (S := S))]
    show (l1_often [x0, x1, some (pairD f.1), some (.tup (f.2.map pairD)), some (spreadD A), x5] S).bind _ = _
    rw [body]; rfl
theorem often_facts {sp : List Fan} (h : okOft sp) : okNeed (plainOf sp) ∧ OftI (plainOf sp).length 0 [((0, 0), neededL (plainOf sp))] ∧ (plainOf sp).length + (sp.filter fun f => !f.2.isEmpty).length ≤ 4 ∧ ∀ f ∈ sp.filter fun f => !f.2.isEmpty, pbox 10 f.1 ∧ boxS 10 f.2 ∧ f.2.length ≤ 4 := by
  have hl : (plainOf sp).length ≤ 4 := by
    unfold plainOf
    rw [List.length_map]
    exact Nat.le_trans (List.length_filter_le _ _) h.1
  have hb : boxS 10 (plainOf sp) := fun p hp => by
    obtain ⟨f, hf, rfl⟩ := List.mem_map.mp hp
    exact (h.2 f (List.mem_filter.mp hf).1).1
  obtain ⟨a, b, c⟩ := needed_facts hb
  refine ⟨⟨by omega, fun p hp => by have := hb p hp; omega⟩, ⟨Nat.le_refl _, fun g hg => ?_⟩, ?_, fun f hf => h.2 f (List.mem_filter.mp hf).1⟩
  rotate_left
  · have : ∀ l : List Fan, (l.filter fun f => f.2.isEmpty).length + (l.filter fun f => !f.2.isEmpty).length = l.length := fun l => by
      induction l with
      | nil => rfl
      | cons f l ih =>
        cases hf : f.2.isEmpty <;> simp [List.filter_cons, hf] <;> omega
    have h5 := this sp
    have h6 := h.1
    unfold plainOf
    rw [List.length_map]; omega
  rw [List.mem_singleton.mp hg]
  exact ⟨⟨⟨Int.le_refl 0, by dsimp only; omega⟩, Int.le_refl 0, by dsimp only; omega⟩, a, by dsimp only; omega⟩
theorem oftenL_I {sp : List Fan} (h : okOft sp) : (oftenL sp).length ≤ 16 ∧ ∀ g ∈ oftenL sp, pbox 40 g.1 ∧ boxS 10 g.2 ∧ g.2.length ≤ 20 := by
  obtain ⟨_, h2, h3, h4⟩ := often_facts h
  have := (often_loop (x0 := none) (x1 := none) (x5 := none) (S := []) (by omega) _ _ 0 none none (by omega) h2 h4).2
  rw [Nat.zero_add] at this
  have hp := Nat.pow_le_pow_right (n := 2) (by decide) (by omega : (sp.filter fun f => !f.2.isEmpty).length ≤ 4)
  refine ⟨Nat.le_trans this.len (Nat.le_trans hp (by decide)), fun g hg => ?_⟩
  obtain ⟨a, b, c⟩ := this.all g hg
  refine ⟨?_, b, by omega⟩
  unfold pbox at a ⊢
  omega
theorem r_often : Refines g_often p_often := refines_pure (fun sp h S => ⟨[], by
  obtain ⟨h1, h2, h3, h4⟩ := often_facts h
  have hsp := h.1
  obtain ⟨⟨x2', x3', e1⟩, _⟩ := often_loop (x0 := some (.tup (sp.map fanD))) (x1 := some (.tup ((plainOf sp).map pairD))) (x5 := none) (S := S) (by omega : (plainOf sp).length ≤ 4) (sp.filter fun f => !f.2.isEmpty) _ 0 none none (by omega) h2 h4
  have hc1 : compL gYes [2, 3] (gTupD 2 (gConsD (gN 2) (gConsD (gN 3) gNilD))) (tOf (eBin (opEq false) (eFn fLen (aCons (eV 3) aNil)) (eC (.int 0)))) (eV 2) (sp.map fanD) [some (.tup (sp.map fanD)), none, none, none, none, none] S [] = some ((plainOf sp).map pairD, S) := by
    rw [compL_enc fanD (fun f => f.2.isEmpty) (fun f => pairD f.1) sp [] (fun f hf => ⟨[some (.tup (sp.map fanD)), none, some (pairD f.1), some (.tup (f.2.map pairD)), none, none], rfl, ?_, fun _ => rfl⟩) (by rw [List.length_nil, sizeLine_eq]; omega)]
    · unfold plainOf; rw [List.nil_append, List.map_map]; rfl
    · have hq : opEq false (.int ((f.2.map pairD).length : Nat)) (.int 0) S = some (.bl f.2.isEmpty, S) := by
        rw [opEq_noB rfl rfl (by simp [D.dep])]
        cases f.2 with
        | nil => simp
        | cons a l => simp <;> omega
      generalize f.2.map pairD = M1 at *
      simp [hq]
  have hc2 : compL gYes [5] (gN 5) (tOf (eBin opGt (eFn fLen (aCons (eBin opSub2 (eV 5) (eC (.int 1))) aNil)) (eC (.int 0)))) (eV 5) (sp.map fanD) [some (.tup (sp.map fanD)), some (.tup ((plainOf sp).map pairD)), none, none, some (spreadD [((0, 0), neededL (plainOf sp))]), none] S [] = some ((sp.filter fun f => !f.2.isEmpty).map fanD, S) := by
    rw [compL_enc fanD (fun f => !f.2.isEmpty) fanD sp [] (fun f hf => ⟨_, rfl, ?_, fun _ => rfl⟩) (by rw [List.length_nil, sizeLine_eq]; omega)]
    · rfl
    · have s1 := sub_f1 f S
      have hq : opGt (.int ((f.2.map pairD).length : Nat)) (.int 0) S = some (.bl (!f.2.isEmpty), S) := by
        cases f.2 with
        | nil => simp [opGt]
        | cons a l => simp [opGt] <;> omega
      generalize f.2.map pairD = M1 at *
      simp [wipeD, s1, hq]
  have hpl : (plainOf sp).length ≤ 60 := h1.1
  have hn1 : newL false ((plainOf sp).map pairD) S = some (.lst ((plainOf sp).map pairD), S) := newL_f (by rw [List.length_map, sizeLine_eq]; omega)
  have hn2 : newL false ((sp.filter fun f => !f.2.isEmpty).map fanD) S = some (.lst ((sp.filter fun f => !f.2.isEmpty).map fanD), S) := newL_f (by rw [List.length_map, sizeLine_eq]; omega)
  have hnr := needed_t h1 S
  have hr : (sp.filter fun f => !f.2.isEmpty).foldl (fun A f => sumSp A (moreSp f)) [((0, 0), neededL (plainOf sp))] = oftenL sp := rfl
  rw [hr] at e1
  have hs0 : spreadD [((0, 0), neededL (plainOf sp))] = .tup [.tup [.tup [.int 0, .int 0], .tup ((neededL (plainOf sp)).map pairD)]] := rfl
  rw [hs0] at e1 hc2
  have hsd : spreadD sp = .tup (sp.map fanD) := rfl
  simp only [hsd, g_often, runDef, b_often]
  generalize spreadD (oftenL sp) = M0 at *
  generalize (neededL (plainOf sp)).map pairD = M1 at *
  generalize (plainOf sp).map pairD = M2 at *
  generalize (sp.filter fun f => !f.2.isEmpty).map fanD = M3 at *
  generalize sp.map fanD = M4 at *
  simp [hc1, hn1, hnr, hc2, hn2, e1]⟩) fun x h n => low_noB _ (by
    show D.noB (.tup _) = true
    rw [D.noB]; exact noBs_map _ fun f _ => noB_fan f)
end Ev
end L2

namespace L2
namespace Ev
open PyProof.Rows PySem.Spec PySem L2
variable [Tb]
open Enc (e)
/-! ### the law's own sums of dicts -/
structure OkBo (S : Store) (i j : Nat) (a b : List P2) : Prop where
  ne : i ≠ j
  one : S[i]? = some (.dct (stD a))
  two : S[j]? = some (.dct (stD b))
  len : a.length * b.length ≤ 1000000
noncomputable def p_law_both : List D → M D := fun ds S => open Classical in if h : ∃ x : Nat × Nat × List P2 × List P2 × Int, ds = [.ref x.1, .ref x.2.1, .int x.2.2.2.2] ∧ OkBo S x.1 x.2.1 x.2.2.1 x.2.2.2.1 then
  some (.ref S.length, S ++ [.dct (stD (lawSums h.choose.2.2.1 h.choose.2.2.2.1 h.choose.2.2.2.2))]) else none
theorem law_both_r {i j : Nat} {a b : List P2} {m : Int} {S : Store} (h : OkBo S i j a b) : p_law_both [.ref i, .ref j, .int m] S = some (.ref S.length, S ++ [.dct (stD (lawSums a b m))]) := by
  unfold p_law_both
  have hx : ∃ x : Nat × Nat × List P2 × List P2 × Int, [D.ref i, D.ref j, D.int m] = [.ref x.1, .ref x.2.1, .int x.2.2.2.2] ∧ OkBo S x.1 x.2.1 x.2.2.1 x.2.2.2.1 := ⟨(i, j, a, b, m), rfl, h⟩
  rw [dif_pos hx]
  obtain ⟨h1, h2⟩ := hx.choose_spec
  generalize hx.choose = x at h1 h2
  obtain ⟨i', j', a', b', m'⟩ := x
  simp only [List.cons.injEq, D.ref.injEq, D.int.injEq, and_true] at h1
  obtain ⟨rfl, rfl, rfl⟩ := h1
  have e1 : a = a' := stD_inj (Cell.dct.inj (Option.some.inj (h.one.symm.trans h2.one)))
  have e2 : b = b' := stD_inj (Cell.dct.inj (Option.some.inj (h.two.symm.trans h2.two)))
  subst e1; subst e2
  rfl
/-- law_both: 0 law_one, 1 law_other, 2 law_most, 3 law_found, 4 law_first, 5 law_second, 6 law_both_here -/
noncomputable def l1_law_both : MS := (sSeq (sAsg (eTup (aCons (eBin (opAdd false) (eBin opSub2 (eV 4) (eC (.int 0))) (eBin opSub2 (eV 5) (eC (.int 0)))) (aCons (eBin (opAdd false) (eBin opSub2 (eV 4) (eC (.int 1))) (eBin opSub2 (eV 5) (eC (.int 1)))) aNil))) (gN 6)) (sIf (tOf (eBin opLe (eFn fMax (aCons (eV 6) aNil)) (eV 2))) (sPut (eV 3) (eV 6) (eC (.bl true))) sNx))
noncomputable def l2_law_both : MS := (sForK (eV 1) (gN 5) l1_law_both)
noncomputable def b_law_both : MS := (sSeq (sAsg eDnew (gN 3)) (sSeq (sForK (eV 0) (gN 4) l2_law_both) (sRet (eV 3))))
noncomputable def g_law_both : List D → M D := runDef 7 b_law_both
theorem both_mid {x0 : Option D} {m : Int} {q j : Nat} {o : List P2} (hqj : q ≠ j) : ∀ (f acc : List P2) (x4 x5 x6 : Option D) (T : Store), T[q]? = some (.dct (stD acc)) → T[j]? = some (.dct (stD o)) → ((f.flatMap fun x => (o.map (addP x)).filter fun p => decide (maxP p ≤ m)).foldl ins acc).length ≤ 1000000 →
    ∃ x4' x5' x6', forL gYes (gN 4) l2_law_both (f.map pairD) [x0, some (.ref j), some (.int m), some (.ref q), x4, x5, x6] T = some (.nx [x0, some (.ref j), some (.int m), some (.ref q), x4', x5', x6'] (T.set q (.dct (stD ((f.flatMap fun x => (o.map (addP x)).filter fun p => decide (maxP p ≤ m)).foldl ins acc)))))
  | [], acc, x4, x5, x6, T, h, _, _ => ⟨x4, x5, x6, by rw [List.map_nil, forL, if_pos (gYes_r (S := T)), List.flatMap_nil, List.foldl_nil, set_same h]⟩
  | a :: f, acc, x4, x5, x6, T, h, ho, hl => by
    rw [List.flatMap_cons, foldl_ins_app] at hl
    have h1 := foldl_ins_ge (f.flatMap fun x => (o.map (addP x)).filter fun p => decide (maxP p ≤ m)) (((o.map (addP a)).filter fun p => decide (maxP p ≤ m)).foldl ins acc)
    have hdead : (T.set j .dead)[q]? = some (.dct (stD acc)) := by rw [List.getElem?_set_ne (Ne.symm hqj)]; exact h
    obtain ⟨x5', x6', e1⟩ := lsum_in (x0 := x0) (x1 := some (.ref j)) (m := m) (a := a) o acc x5 x6 (T.set j .dead) hdead (by omega)
    have hT1 : (T.set q (.dct (stD (((o.map (addP a)).filter fun p => decide (maxP p ≤ m)).foldl ins acc))))[j]? = some (.dct (stD o)) := by rw [List.getElem?_set_ne hqj]; exact ho
    obtain ⟨x4', x5'', x6'', ih⟩ := both_mid (x0 := x0) hqj f _ (some (pairD a)) x5' x6' (T.set q (.dct (stD (((o.map (addP a)).filter fun p => decide (maxP p ≤ m)).foldl ins acc)))) (set_get h) hT1 hl
    refine ⟨x4', x5'', x6'', ?_⟩
    rw [set_set'] at ih
    rw [List.flatMap_cons, foldl_ins_app, ← ih, List.map_cons]
    have hk : (stD o).map (·.1) = o.map pairD := by unfold stD; rw [List.map_map]; rfl
    have e1 : forL gYes (gN 5) l1_law_both (o.map pairD) [x0, some (.ref j), some (.int m), some (.ref q), some (pairD a), x5, x6] (T.set j .dead) = some (.nx [x0, some (.ref j), some (.int m), some (.ref q), some (pairD a), x5', x6'] ((T.set j .dead).set q (.dct (stD (((o.map (addP a)).filter fun p => decide (maxP p ≤ m)).foldl ins acc))))) := e1
    have body : l2_law_both [x0, some (.ref j), some (.int m), some (.ref q), some (pairD a), x5, x6] T = some (.nx [x0, some (.ref j), some (.int m), some (.ref q), some (pairD a), x5', x6'] (T.set q (.dct (stD (((o.map (addP a)).filter fun p => decide (maxP p ≤ m)).foldl ins acc))))) := by
      unfold l2_law_both
      rw [forK_dct (n := j) (kvs := stD o) rfl ho rfl, hk, e1]
      simp only [Option.map_some, Res.fix]
      congr 2
      rw [List.set_comm _ _ hqj, List.set_set, ← List.set_comm _ _ hqj]
      rw [set_same hT1]
    rw [forL, if_pos (gYes_r (S := T))]
    show (l2_law_both [x0, some (.ref j), some (.int m), some (.ref q), some (pairD a), x5, x6] T).bind _ = _
    rw [body]; rfl
theorem r_law_both : Refines g_law_both p_law_both := fun ds S d S1 h => by
  unfold p_law_both at h
  split at h
  · rename_i hx
    obtain ⟨h1, h2⟩ := hx.choose_spec
    cases h
    generalize hx.choose = x at h1 h2
    obtain ⟨i, j, a, b, m⟩ := x
    dsimp only at h1 h2
    subst h1
    dsimp only
    have hi : i < S.length := (List.getElem?_eq_some_iff.mp h2.one).1
    have hj : j < S.length := (List.getElem?_eq_some_iff.mp h2.two).1
    have hat : (S ++ [Cell.dct (stD ([] : List P2))])[S.length]? = some (.dct (stD ([] : List P2))) := at_len
    have hi1 : (S ++ [Cell.dct (stD ([] : List P2))])[i]? = some (.dct (stD a)) := by rw [List.getElem?_append_left hi]; exact h2.one
    have hj1 : (S ++ [Cell.dct (stD ([] : List P2))])[j]? = some (.dct (stD b)) := by rw [List.getElem?_append_left hj]; exact h2.two
    have hq1 : ((S ++ [Cell.dct (stD ([] : List P2))]).set i .dead)[S.length]? = some (.dct (stD ([] : List P2))) := by rw [List.getElem?_set_ne (by omega)]; exact hat
    have hj2 : ((S ++ [Cell.dct (stD ([] : List P2))]).set i .dead)[j]? = some (.dct (stD b)) := by rw [List.getElem?_set_ne h2.ne]; exact hj1
    have hl := lawSums_len a b m
    have hln := h2.len
    obtain ⟨x4', x5', x6', e1⟩ := both_mid (x0 := some (.ref i)) (m := m) (q := S.length) (j := j) (by omega) a [] none none none ((S ++ [Cell.dct (stD ([] : List P2))]).set i .dead) hq1 hj2 (by show (lawSums a b m).length ≤ _; omega)
    have hk : (stD a).map (·.1) = a.map pairD := by unfold stD; rw [List.map_map]; rfl
    have hfin : (((S ++ [Cell.dct (stD ([] : List P2))]).set i .dead).set S.length (.dct (stD (lawSums a b m)))).set i (.dct (stD a)) = S ++ [.dct (stD (lawSums a b m))] := by
      rw [List.set_comm _ _ (by omega : S.length ≠ i), List.set_set, set_same hi1, set_len]
    have e2 : sForK (eV 0) (gN 4) l2_law_both [some (.ref i), some (.ref j), some (.int m), some (.ref S.length), none, none, none] (S ++ [Cell.dct (stD ([] : List P2))]) = some (.nx [some (.ref i), some (.ref j), some (.int m), some (.ref S.length), x4', x5', x6'] (S ++ [.dct (stD (lawSums a b m))])) := by
      rw [forK_dct (n := i) (kvs := stD a) rfl hi1 rfl, hk, e1]
      simp only [Option.map_some, Res.fix]
      congr 2
    refine .inr ⟨[.dct (stD (lawSums a b m))], [], by simp, ?_, by simp [D.low], fun c hc => ?_⟩
    · have body : b_law_both [some (.ref i), some (.ref j), some (.int m), none, none, none, none] S = some (.rt (.ref S.length) (S ++ [.dct (stD (lawSums a b m))])) := by
        unfold b_law_both
        refine (seq_nx (ρ1 := [some (.ref i), some (.ref j), some (.int m), some (.ref S.length), none, none, none]) (S1 := S ++ [Cell.dct (stD ([] : List P2))]) rfl).trans ?_
        exact (seq_nx e2).trans rfl
      show (b_law_both [some (.ref i), some (.ref j), some (.int m), none, none, none, none] S).bind Res.out = _
      rw [body]; simp [Res.out]
    · rw [List.mem_singleton.mp hc]
      intro p hp
      obtain ⟨q, _, rfl⟩ := List.mem_map.mp hp
      exact ⟨low_noB _ (noB_pair q), rfl⟩
  · cases h
noncomputable def p_either : List D → M D := pureP (fun x : List Fan × List Fan => [spreadD x.1, spreadD x.2]) (fun x => x.1.length + x.2.length ≤ 1000) fun x => spreadD (x.1 ++ x.2)
theorem either_r {one other : List Fan} (h : one.length + other.length ≤ 1000) (S : Store) : p_either [spreadD one, spreadD other] S = some (spreadD (one ++ other), S) := pureP_r (enc := fun x : List Fan × List Fan => [spreadD x.1, spreadD x.2]) (fun a b e => by
  simp only [List.cons.injEq, and_true] at e
  exact Prod.ext (map_inj fanD_inj (D.tup.inj e.1)) (map_inj fanD_inj (D.tup.inj e.2))) (a := (one, other)) h S
/-- either: 0 one, 1 other -/
noncomputable def b_either : MS := (sRet (eBin (opAdd false) (eV 0) (eV 1)))
noncomputable def g_either : List D → M D := runDef 2 b_either
theorem r_either : Refines g_either p_either := refines_pure (fun x h S => ⟨[], by
  obtain ⟨one, other⟩ := x
  dsimp only at h ⊢
  have hadd : opAdd false (spreadD one) (spreadD other) S = some (spreadD (one ++ other), S) := by
    unfold spreadD opAdd
    rw [List.map_append]
    exact if_pos (by rw [List.length_map, List.length_map, sizeLine_eq]; omega)
  simp only [g_either, runDef, b_either]
  generalize spreadD (one ++ other) = M0 at *
  generalize spreadD one = M1 at *
  generalize spreadD other = M2 at *
  simp [hadd]⟩) fun x h n => low_noB _ (by
    show D.noB (.tup _) = true
    rw [D.noB]; exact noBs_map _ fun f _ => noB_fan f)
end Ev
end L2

namespace L2
namespace Ev
open PyProof.Rows PySem.Spec PySem L2
variable [Tb]
open Enc (e)
/-! ### the law's own asking whether it is a spread -/
def okTold (sp : List Fan) : Prop := ∀ f ∈ sp, (0 ≤ f.1.1 ∧ 0 ≤ f.1.2) ∧ goodSt f.2 ∧ f.2.length ≤ 1000
noncomputable def p_law_is_told : List D → M D := pureP (fun x : List Fan => [spreadD x]) okTold fun _ => .bl true
theorem law_is_told_r {sp : List Fan} (h : okTold sp) (S : Store) : p_law_is_told [spreadD sp] S = some (.bl true, S) := pureP_r (enc := fun x : List Fan => [spreadD x]) (fun a b e => by
  simp only [List.cons.injEq, and_true] at e
  exact map_inj fanD_inj (D.tup.inj e)) (a := sp) h S
/-- law_is_told: 0 law_spread_here, 1 law_base, 2 law_steps, 3 law_count, 4 law_part -/
noncomputable def l1_law_is_told : MS := (sSeq (sIf (tOrD (tNotD (tOf (eIsi "tuple" (eV 3)))) (tOrD (tOf (eBin (opEq true) (eFn fLen (aCons (eV 3) aNil)) (eC (.int 2)))) (tOf (eBin opLt (eFn fMin (aCons (eV 3) aNil)) (eC (.int 0)))))) (sRet (eC (.bl false))) sNx) (sIf (tOf (eBin (opEq true) (eLc false [4] (iSeq (eV 3)) (gN 4) (tOrD (tNotD (tOf (eIsi "int" (eV 4)))) (tOf (eIsi "bool" (eV 4)))) (eV 4)) (eLst false aNil))) (sRet (eC (.bl false))) sNx))
noncomputable def l2_law_is_told : MS := (sSeq (sFor (iSeq (eBin (opAdd false) (eTup (aCons (eV 1) aNil)) (eV 2))) (gN 3) l1_law_is_told) (sIf (tOf (eBin (opIn false) (eTup (aCons (eC (.int 0)) (aCons (eC (.int 0)) aNil))) (eV 2))) (sRet (eC (.bl false))) sNx))
noncomputable def b_law_is_told : MS := (sSeq (sIf (tNotD (tOf (eIsi "tuple" (eV 0)))) (sRet (eC (.bl false))) sNx) (sSeq (sFor (iSeq (eV 0)) (gTupD 2 (gConsD (gN 1) (gConsD (gN 2) gNilD))) l2_law_is_told) (sRet (eC (.bl true)))))
noncomputable def g_law_is_told : List D → M D := runDef 5 b_law_is_told
theorem fMin_pair (p : P2) (S : Store) : ∃ v : Int, fMin [pairD p] S = some (.int v, S) ∧ (v = p.1 ∨ v = p.2) := by
  refine ⟨if p.2 < p.1 then p.2 else p.1, rfl, ?_⟩
  split <;> simp
theorem told_one {x0 x1 x2 x4 : Option D} {p : P2} (h : 0 ≤ p.1 ∧ 0 ≤ p.2) (S : Store) : l1_law_is_told [x0, x1, x2, some (pairD p), x4] S = some (.nx [x0, x1, x2, some (pairD p), x4] S) := by
  obtain ⟨v, hv, hv2⟩ := fMin_pair p S
  have h0 : opLt (.int v) (.int 0) S = some (.bl false, S) := by
    have : ¬ v < 0 := by rcases hv2 with rfl | rfl <;> omega
    simp [opLt, this]
  have hc : compL gYes [4] (gN 4) (tOrD (tNotD (tOf (eIsi "int" (eV 4)))) (tOf (eIsi "bool" (eV 4)))) (eV 4) [.int p.1, .int p.2] [x0, x1, x2, some (pairD p), x4] S [] = some ([], S) := by
    rw [compL_pure rfl (fun _ => false) id]
    · simp
    · intro d hd
      refine ⟨_, rfl, ?_, fun z => by cases z⟩
      rcases List.mem_cons.mp hd with rfl | hd
      · simp [wipeD, isiT]
      · rw [List.mem_singleton.mp hd]; simp [wipeD, isiT]
    · rw [sizeLine_eq]; simp
  have hq := opEq_nils true S
  have hl : fLen [pairD p] S = some (.int 2, S) := rfl
  have hq2 : opEq true (.int 2) (.int 2) S = some (.bl false, S) := by rw [opEq_noB rfl rfl (by simp [D.dep])]; simp
  have hi : isiT "tuple" "tuple" = true := by simp [isiT]
  have hp : pairD p = .tup [.int p.1, .int p.2] := rfl
  unfold l1_law_is_told
  rw [hp] at hv hc hl ⊢
  simp [hv, h0, hc, hq, hl, hq2, isiT]
theorem told_in {x0 x1 x2 x4 : Option D} {S : Store} : ∀ (ps : List P2) (x3 : Option D), (∀ p ∈ ps, 0 ≤ p.1 ∧ 0 ≤ p.2) → ∃ x3', forL gYes (gN 3) l1_law_is_told (ps.map pairD) [x0, x1, x2, x3, x4] S = some (.nx [x0, x1, x2, x3', x4] S)
  | [], x3, _ => ⟨x3, rfl⟩
  | p :: ps, x3, h => by
    obtain ⟨x3', ih⟩ := told_in (x0 := x0) (x1 := x1) (x2 := x2) (x4 := x4) (S := S) ps (some (pairD p)) fun q hq => h q (List.mem_cons_of_mem _ hq)
    refine ⟨x3', ?_⟩
    have b := told_one (x0 := x0) (x1 := x1) (x2 := x2) (x4 := x4) (h p List.mem_cons_self) S
    rw [List.map_cons, forL, if_pos (gYes_r (S := S))]
    show (l1_law_is_told [x0, x1, x2, some (pairD p), x4] S).bind _ = _
    rw [b]; exact ih
theorem told_out {x0 x4 : Option D} {S : Store} : ∀ (fs : List Fan) (x1 x2 x3 : Option D), okTold fs → ∃ x1' x2' x3', forL gYes (gTupD 2 (gConsD (gN 1) (gConsD (gN 2) gNilD))) l2_law_is_told (fs.map fanD) [x0, x1, x2, x3, x4] S = some (.nx [x0, x1', x2', x3', x4] S)
  | [], x1, x2, x3, _ => ⟨x1, x2, x3, rfl⟩
  | f :: fs, x1, x2, x3, h => by
    obtain ⟨h1, h2, h3⟩ := h f List.mem_cons_self
    obtain ⟨x3', e1⟩ := told_in (x0 := x0) (x1 := some (pairD f.1)) (x2 := some (.tup (f.2.map pairD))) (x4 := x4) (S := S) (f.1 :: f.2) x3 fun p hp => by
      rcases List.mem_cons.mp hp with rfl | hp
      · exact h1
      · exact ⟨(h2 p hp).1, (h2 p hp).2.1⟩
    obtain ⟨x1', x2', x3'', ih⟩ := told_out (x0 := x0) (x4 := x4) (S := S) fs (some (pairD f.1)) (some (.tup (f.2.map pairD))) x3' fun g hg => h g (List.mem_cons_of_mem _ hg)
    refine ⟨x1', x2', x3'', ?_⟩
    have hadd : opAdd false (.tup [pairD f.1]) (.tup (f.2.map pairD)) S = some (.tup ((f.1 :: f.2).map pairD), S) := by
      unfold opAdd
      exact if_pos (by rw [List.length_map, List.length_singleton, sizeLine_eq]; omega)
    have hnot : ¬ ((0, 0) : P2) ∈ f.2 := fun z => (h2 _ z).2.2 rfl
    have hin : opIn false (.tup [.int 0, .int 0]) (.tup (f.2.map pairD)) S = some (.bl false, S) := by
      have := opIn_tup (α := P2) false (0, 0) f.2 (S := S)
      refine Eq.trans this ?_
      simp [hnot]
    have body : l2_law_is_told [x0, some (pairD f.1), some (.tup (f.2.map pairD)), x3, x4] S = some (.nx [x0, some (pairD f.1), some (.tup (f.2.map pairD)), x3', x4] S) := by
      unfold l2_law_is_told
      generalize (f.1 :: f.2).map pairD = M1 at *
      generalize f.2.map pairD = M2 at *
      simp [hadd, e1, hin]
    rw [List.map_cons, forL, if_pos (gYes_r (S := S))]
    show (l2_law_is_told [x0, some (pairD f.1), some (.tup (f.2.map pairD)), x3, x4] S).bind _ = _
    rw [body]; exact ih
theorem r_law_is_told : Refines g_law_is_told p_law_is_told := refines_pure (fun sp h S => ⟨[], by
  obtain ⟨x1', x2', x3', e1⟩ := told_out (x0 := some (.tup (sp.map fanD))) (x4 := none) (S := S) sp none none none h
  have hsd : spreadD sp = .tup (sp.map fanD) := rfl
  simp only [hsd, g_law_is_told, runDef, b_law_is_told]
  generalize sp.map fanD = M1 at *
  simp [e1, isiT]⟩) fun _ _ n => rfl
end Ev
end L2

namespace L2
namespace Ev
open PyProof.Rows PySem.Spec PySem L2
variable [Tb]
/-! ### bounds of what k20 draws -/
theorem spreadV_mem {n m : Int} {f : Fan} (h : f ∈ spreadV n m) : ∃ k, f = fanV k m := by
  unfold spreadV at h
  obtain ⟨k, _, rfl⟩ := List.mem_map.mp h
  exact ⟨_, rfl⟩
theorem spreadV_b {n : Int} {f : Fan} (h : f ∈ spreadV n 5) : pbox 5 f.1 ∧ boxS 4 f.2 ∧ goodSt f.2 ∧ f.2.length ≤ 4 := by
  obtain ⟨k, rfl⟩ := spreadV_mem h
  exact ⟨fanV_base (by decide), fun p hp => by have := fanV_step hp; omega, fun p hp => by have := fanV_step hp; exact ⟨this.1.1, this.2.1.1, this.2.2⟩, fanV_len k 5⟩
theorem okOft_spreadV (n : Int) : okOft (spreadV n 5) := ⟨spreadV_len n 5, fun f hf => by
  obtain ⟨a, b, c, d⟩ := spreadV_b hf
  refine ⟨?_, fun p hp => by have := b p hp; omega, d⟩
  unfold pbox at a ⊢
  omega⟩
theorem okSm_spreadV (n k : Int) : okSm (spreadV n 5, spreadV k 5) := by
  have h1 := spreadV_len n 5
  have h2 := spreadV_len k 5
  refine ⟨by dsimp only; omega, by dsimp only; omega, Nat.le_trans (Nat.mul_le_mul h1 h2) (by decide), fun f hf g hg => ?_⟩
  obtain ⟨a1, a2, a3, a4⟩ := spreadV_b hf
  obtain ⟨b1, b2, b3, b4⟩ := spreadV_b hg
  refine ⟨⟨by rw [List.length_append]; omega, fun p hp => by have := boxS_app a2 b2 p hp; omega⟩, ?_⟩
  have := pbox_add a1 b1
  unfold pbox at this ⊢
  omega
theorem sumSp_b {n k : Int} : (sumSp (spreadV n 5) (spreadV k 5)).length ≤ 16 ∧ ∀ g ∈ sumSp (spreadV n 5) (spreadV k 5), pbox 10 g.1 ∧ boxS 4 g.2 ∧ goodSt g.2 ∧ g.2.length ≤ 8 := by
  constructor
  · have h1 := trimL_len (sumFans (spreadV n 5) (spreadV k 5))
    rw [sumFans_len] at h1
    exact Nat.le_trans h1 (Nat.le_trans (Nat.mul_le_mul (spreadV_len n 5) (spreadV_len k 5)) (by decide))
  · intro x hx
    obtain ⟨f, hf, hx⟩ := List.mem_flatMap.mp (trimL_sub hx)
    obtain ⟨g, hg, rfl⟩ := List.mem_map.mp hx
    obtain ⟨a1, a2, a3, a4⟩ := spreadV_b hf
    obtain ⟨b1, b2, b3, b4⟩ := spreadV_b hg
    obtain ⟨c1, c2, c3⟩ := needed_facts (boxS_app a2 b2)
    rw [List.length_append] at c3
    exact ⟨pbox_add a1 b1, c1, c2, by show (neededL (f.2 ++ g.2)).length ≤ 8; omega⟩
/-- few, of what the bounds hold -/
theorem okFewS_b {sp : List Fan} {m : Int} (hm : m ≤ 20) (hl : sp.length ≤ 20) (h : ∀ g ∈ sp, (0 ≤ g.1.1 ∧ 0 ≤ g.1.2) ∧ goodSt g.2 ∧ g.2.length ≤ 20) : okFewS (sp, m) := ⟨fun g hg => by
  obtain ⟨a, b, c⟩ := h g hg
  exact ⟨a, fun p hp => ⟨(b p hp).1, (b p hp).2.1⟩, c, by dsimp only; omega⟩, hl, hm⟩
/-- goodness of what often gives -/
theorem oftenL_good {sp : List Fan} (h : okOft sp) : ∀ g ∈ oftenL sp, goodSt g.2 := by
  have gen : ∀ (fs A : List Fan), (∀ f ∈ fs, pbox 10 f.1 ∧ boxS 10 f.2) → (∀ g ∈ A, goodSt g.2 ∧ boxS 10 g.2) → ∀ g ∈ fs.foldl (fun A f => sumSp A (moreSp f)) A, goodSt g.2 ∧ boxS 10 g.2 := by
    intro fs
    induction fs with
    | nil => exact fun A _ hA => hA
    | cons f fs ih =>
      intro A hf hA
      refine ih _ (fun g hg => hf g (List.mem_cons_of_mem _ hg)) fun x hx => ?_
      obtain ⟨g, hg, hx⟩ := List.mem_flatMap.mp (trimL_sub hx)
      obtain ⟨m, hm, rfl⟩ := List.mem_map.mp hx
      have hbm : boxS 10 m.2 := by
        obtain ⟨p1, p2⟩ := hf f List.mem_cons_self
        rcases List.mem_cons.mp hm with rfl | hm
        · exact fun p hp => by cases hp
        · rw [List.mem_singleton.mp hm]
          exact (needed_facts (boxS_app p2 (fun p hp => by rw [List.mem_singleton.mp hp]; exact p1))).1
      obtain ⟨c1, c2, _⟩ := needed_facts (boxS_app (hA g hg).2 hbm)
      exact ⟨c2, c1⟩
  intro g hg
  refine (gen _ _ (fun f hf => ?_) (fun g hg => ?_) g hg).1
  · have := h.2 f (List.mem_filter.mp hf).1
    exact ⟨this.1, this.2.1⟩
  · rw [List.mem_singleton.mp hg]
    have hb : boxS 10 (plainOf sp) := fun p hp => by
      obtain ⟨f, hf, rfl⟩ := List.mem_map.mp hp
      exact (h.2 f (List.mem_filter.mp hf).1).1
    obtain ⟨a, b, _⟩ := needed_facts hb
    exact ⟨b, a⟩
end Ev
end L2

namespace L2
namespace Ev
open PyProof.Rows PySem.Spec PySem L2
variable [Tb]
/-! ### the law's own over and over -/
def nextD (F d : List P2) : List P2 := (lawSums d F 9).foldl ins d
inductive DueR (F : List P2) : Int → List P2 → List P2 → Prop
  | stop {n : Int} {d : List P2} (h : n = d.length) : DueR F n d d
  | go {n : Int} {d r : List P2} (h : n ≠ d.length) (k : DueR F d.length (nextD F d) r) : DueR F n d r
/-- what stands in due -/
structure OkDue (A : P2 → Prop) (d : List P2) : Prop where
  nd : d.Nodup
  grid : ∀ x ∈ d, x ∈ gridL 9
  star : ∀ x ∈ d, Star A x
theorem OkDue.next {A : P2 → Prop} {F d : List P2} (h : OkDue A d) (hF : ∀ y ∈ F, nn y ∧ A y) : OkDue A (nextD F d) := by
  refine ⟨foldl_ins_nodup _ h.nd, fun x hx => ?_, fun x hx => ?_⟩
  · rcases (mem_foldl_ins' _ _).mp hx with hx | hx
    · exact h.grid x hx
    · obtain ⟨⟨a, ha, b, hb, rfl⟩, hm⟩ := mem_lawSums.mp hx
      exact mem_gridL.mpr ⟨nn_add (mem_gridL.mp (h.grid a ha)).1 (hF b hb).1, hm⟩
  · rcases (mem_foldl_ins' _ _).mp hx with hx | hx
    · exact h.star x hx
    · obtain ⟨⟨a, ha, b, hb, rfl⟩, hm⟩ := mem_lawSums.mp hx
      exact .add (h.star a ha) (hF b hb).2
theorem OkDue.len {A : P2 → Prop} {d : List P2} (h : OkDue A d) : d.length ≤ 100 := by
  have := nodup_le h.nd h.grid
  rw [grid_sq] at this
  exact this
theorem due_exist {A : P2 → Prop} {F : List P2} (hF : ∀ y ∈ F, nn y ∧ A y) : ∀ (f : Nat) (n : Int) (d : List P2), OkDue A d → n ≤ d.length → 100 - d.length < f → ∃ r, DueR F n d r
  | 0, _, _, _, _, h => absurd h (Nat.not_lt_zero _)
  | f + 1, n, d, hd, hn, hf => by
    by_cases h : n = d.length
    · exact ⟨d, .stop h⟩
    · have h1 := foldl_ins_ge (lawSums d F 9) d
      have h2 := (hd.next hF).len
      by_cases h3 : (nextD F d).length = d.length
      · exact ⟨_, .go h (.stop (by omega))⟩
      · have h4 : d.length ≤ (nextD F d).length := h1
        obtain ⟨r, hr⟩ := due_exist hF f d.length (nextD F d) (hd.next hF) (by omega) (by omega)
        exact ⟨r, .go h hr⟩
theorem due_keep {A : P2 → Prop} {F : List P2} (hF : ∀ y ∈ F, nn y ∧ A y) {n : Int} {d r : List P2} (H : DueR F n d r) : OkDue A d → OkDue A r ∧ ∀ x ∈ d, x ∈ r := by
  induction H with
  | stop h => exact fun hd => ⟨hd, fun _ hx => hx⟩
  | go h k ih =>
    intro hd
    obtain ⟨a, b⟩ := ih (hd.next hF)
    exact ⟨a, fun x hx => b x ((mem_foldl_ins' _ _).mpr (.inl hx))⟩
theorem due_end {F : List P2} {n : Int} {d r : List P2} (H : DueR F n d r) : (n = d.length → nextD F d = d) → nextD F r = r := by
  induction H with
  | stop h => exact fun h2 => h2 h
  | @go n d r h k ih =>
    refine fun _ => ih fun h2 => ?_
    have h3 : (nextD F d).length = d.length := by omega
    have e : nextD F d = d := foldl_ins_eq _ _ h3
    rw [e, e]
theorem due_all {A : P2 → Prop} (hA : ∀ y, A y → nn y) {F : List P2} (hF : ∀ y, y ∈ F ↔ maxP y ≤ 9 ∧ A y) {r : List P2} (H : DueR F 0 [(0, 0)] r) : r.Nodup ∧ ∀ x, x ∈ r ↔ maxP x ≤ 9 ∧ Star A x := by
  have hF' : ∀ y ∈ F, nn y ∧ A y := fun y hy => ⟨hA y ((hF y).mp hy).2, ((hF y).mp hy).2⟩
  have h0 : OkDue A [(0, 0)] := ⟨List.nodup_cons.mpr ⟨by simp, List.nodup_nil⟩, fun x hx => by rw [List.mem_singleton.mp hx]; exact mem_gridL.mpr ⟨⟨by decide, by decide⟩, by decide⟩, fun x hx => by rw [List.mem_singleton.mp hx]; exact .zero⟩
  obtain ⟨hr, hin⟩ := due_keep hF' H h0
  have he := due_end H fun h => by simp at h
  have starnn : ∀ x, Star A x → nn x := fun x h => by
    induction h with
    | zero => exact ⟨by decide, by decide⟩
    | add _ k ih => exact nn_add ih (hA _ k)
  refine ⟨hr.nd, fun x => ⟨fun hx => ⟨(mem_gridL.mp (hr.grid x hx)).2, hr.star x hx⟩, ?_⟩⟩
  rintro ⟨hm, hx⟩
  induction hx with
  | zero => exact hin _ (by simp)
  | @add x y hs ha ih =>
    have hx := ih (Int.le_trans (maxP_l (hA y ha)) hm)
    have hy : y ∈ F := (hF y).mpr ⟨Int.le_trans (maxP_r (starnn x hs)) hm, ha⟩
    rw [← he]
    exact (mem_foldl_ins' _ _).mpr (.inr (mem_lawSums.mpr ⟨⟨x, hx, y, hy, rfl⟩, hm⟩))
end Ev
end L2

namespace L2
namespace Ev
namespace Pk20
open PyProof.Rows PySem.Spec PySem
variable [Tb]
/-! ### what the defs mean -/
/-- law: 0 law_script, 1 law_one, 2 law_other, 3 law_found, 4 law_first, 5 law_due, 6 law_size -/
noncomputable def l1_law : MS := (sSeq (sAsg (eFn fLenA (aCons (eV 5) aNil)) (gN 6)) (sDrop (eDm dmUpdate (eV 5) (aCons (eCall 3 p_law_both (aCons (eV 5) (aCons (eV 4) (aCons (eC (.int 9)) aNil)))) aNil))))
noncomputable def b_law : MS := (sSeq (sAsg (eCall 2 p_law_spread (aCons (eCall 2 p_law_mixed (aCons (eV 0) (aCons (eC (.int 0)) aNil))) (aCons (eC (.int 5)) aNil))) (gN 1)) (sSeq (sAsg (eCall 2 p_law_spread (aCons (eCall 2 p_law_mixed (aCons (eV 0) (aCons (eC (.int 1)) aNil))) (aCons (eC (.int 5)) aNil))) (gN 2)) (sSeq (sIf (tOf (eBin (opEq true) (eCall 2 p_either (aCons (eV 1) (aCons (eV 2) aNil))) (eBin (opAdd false) (eV 1) (eV 2)))) (sRet (eC (.bl false))) sNx) (sSeq (sAsg (eCall 2 p_sums (aCons (eV 1) (aCons (eV 2) aNil))) (gN 3)) (sSeq (sIf (tNotD (tOf (eCall 1 p_law_is_told (aCons (eV 3) aNil)))) (sRet (eC (.bl false))) sNx) (sSeq (sAsg (eCall 2 p_law_few (aCons (eV 1) (aCons (eC (.int 9)) aNil))) (gN 4)) (sSeq (sIf (tOf (eBin (opEq true) (eCall 2 p_few (aCons (eV 3) (aCons (eC (.int 9)) aNil))) (eFn fTuple (aCons (eFn (fSorted false) (aCons (eCall 3 p_law_both (aCons (eV 4) (aCons (eCall 2 p_law_few (aCons (eV 2) (aCons (eC (.int 9)) aNil))) (aCons (eC (.int 9)) aNil)))) aNil)) aNil)))) (sRet (eC (.bl false))) sNx) (sSeq (sAsg (eCall 1 p_often (aCons (eV 1) aNil)) (gN 3)) (sSeq (sAsg (eDict1 (eTup (aCons (eC (.int 0)) (aCons (eC (.int 0)) aNil))) (eC (.bl true))) (gN 5)) (sSeq (sAsg (eC (.int 0)) (gN 6)) (sSeq (sWhile (tOf (eBin (opEq true) (eV 6) (eFn fLenA (aCons (eV 5) aNil)))) l1_law) (sRet (eAnd (eCall 1 p_law_is_told (aCons (eV 3) aNil)) (eBin (opEq false) (eCall 2 p_few (aCons (eV 3) (aCons (eC (.int 9)) aNil))) (eFn fTuple (aCons (eFn (fSorted false) (aCons (eV 5) aNil)) aNil))))))))))))))))
noncomputable def g_law : List D → M D := runDef 7 b_law
end Pk20
end Ev
end L2

namespace L2
namespace Ev
namespace Pk20
open PyProof.Rows PySem.Spec PySem
variable [Tb]
/-! ### that they mean it -/
def topS (i : Nat) : Stmt := PySem.Challenge.pw_lettersum_k20_put_together.main.body.getD i (.Pass ⟨0, 0, 0, 0⟩)
section
variable {P : Program} {w : World} {K : PySem.W.Frag} {mg : Str → Option Value} {base : Heap}
abbrev s_law_cell_at : Stmt := topS 15
theorem sc_law_cell_at : FnScope ["_law_script", "_law_k"] ["_law_script", "_law_k"] (defScope s_law_cell_at) := ⟨rfl, rfl, rfl, by decide +kernel, rfl, by decide +kernel, by decide +kernel⟩
theorem d_law_cell_at {f : Addr} {fd : FuncData} (F : Fun K "_law_cell_at" "_law_cell_at" s_law_cell_at f fd) (bd : L2.Binds K fd ["_law_script", "_law_k"] []) (hm : mg "_law_cell_at" = some (.ref f)) (z_len : mg "len" = none) : Df P w K mg base "_law_cell_at" 1 2 p_law_cell_at := by
  have hF : FnOk P w K mg base CX0 (0 + 1) f fd ["_law_script", "_law_k"] (spD ⟨P, w, K⟩ (List.length ["_law_script", "_law_k"]) (runDef (List.length ["_law_script", "_law_k"]) b_law_cell_at)) := fn_ev (N := ["_law_script", "_law_k"]) (ps := ["_law_script", "_law_k"]) (k := 0) (g := b_law_cell_at) F sc_law_cell_at fun cdv A outer s H E hr => by
      have hu := room_un hr
      have hc : (cxOf CX0 P w K mg base ["_law_script", "_law_k"] "_law_cell_at" (defScope s_law_cell_at) f cdv A outer s H E).nox.calm = true := rfl
      have nd := sc_law_cell_at.nd
      conv => arg 2; whnf
      exact (b_cons (s_if (t_cmp o_lt (e_var 1) (e_blt f_len0 z_len (a_cons (e_var 0) a_nil)) opLt_bl) (b_one (s_ret (e_sub hu (e_var 0) (e_var 1)))) b_nil) (b_one (s_ret e_int)))
  exact Df.refine (g := g_law_cell_at) ⟨f, fd, ["_law_script", "_law_k"], hm, F.kp, bd, rfl, hF⟩ r_law_cell_at
abbrev s_law_mixed : Stmt := topS 16
theorem sc_law_mixed : FnScope ["_law_script", "_law_k", "_law_drawn_here"] ["_law_script", "_law_k"] (defScope s_law_mixed) := ⟨rfl, rfl, rfl, by decide +kernel, rfl, by decide +kernel, by decide +kernel⟩
theorem d_law_mixed {f : Addr} {fd : FuncData} (F : Fun K "_law_mixed" "_law_mixed" s_law_mixed f fd) (bd : L2.Binds K fd ["_law_script", "_law_k"] []) (hm : mg "_law_mixed" = some (.ref f)) (D_law_cell_at : Df P w K mg base "_law_cell_at" 1 2 p_law_cell_at) : Df P w K mg base "_law_mixed" 2 2 p_law_mixed := by
  have hF : FnOk P w K mg base CX0 (1 + 1) f fd ["_law_script", "_law_k"] (spD ⟨P, w, K⟩ (List.length ["_law_script", "_law_k"]) (runDef (List.length ["_law_script", "_law_k", "_law_drawn_here"]) b_law_mixed)) := fn_ev (N := ["_law_script", "_law_k", "_law_drawn_here"]) (ps := ["_law_script", "_law_k"]) (k := 1) (g := b_law_mixed) F sc_law_mixed fun cdv A outer s H E hr => by
      have hu := room_un hr
      have hc : (cxOf CX0 P w K mg base ["_law_script", "_law_k", "_law_drawn_here"] "_law_mixed" (defScope s_law_mixed) f cdv A outer s H E).nox.calm = true := rfl
      have nd := sc_law_mixed.nd
      conv => arg 2; whnf
      exact (b_cons (s_set 2 nd (e_bin o_mod (e_bin o_mul (e_bin (o_add false) (e_bin (o_add false) (e_call D_law_cell_at hr (a_cons (e_var 0) (a_cons (e_var 1) a_nil))) (e_bin o_mul e_int (e_var 1))) e_int) e_int) e_int)) (b_one (s_ret (e_bin o_mod (e_bin (o_add false) (e_bin (o_add false) (e_bin o_mul (e_var 2) (e_var 2)) (e_bin o_mul e_int (e_var 2))) (e_var 1)) e_int))))
  exact Df.refine (g := g_law_mixed) ⟨f, fd, ["_law_script", "_law_k"], hm, F.kp, bd, rfl, hF⟩ r_law_mixed
abbrev s_law_drawn : Stmt := topS 17
theorem sc_law_drawn : FnScope ["_law_number", "_law_k", "_law_drawn_here"] ["_law_number", "_law_k"] (defScope s_law_drawn) := ⟨rfl, rfl, rfl, by decide +kernel, rfl, by decide +kernel, by decide +kernel⟩
theorem d_law_drawn {f : Addr} {fd : FuncData} (F : Fun K "_law_drawn" "_law_drawn" s_law_drawn f fd) (bd : L2.Binds K fd ["_law_number", "_law_k"] []) (hm : mg "_law_drawn" = some (.ref f)) : Df P w K mg base "_law_drawn" 1 2 p_law_drawn := by
  have hF : FnOk P w K mg base CX0 (0 + 1) f fd ["_law_number", "_law_k"] (spD ⟨P, w, K⟩ (List.length ["_law_number", "_law_k"]) (runDef (List.length ["_law_number", "_law_k", "_law_drawn_here"]) b_law_drawn)) := fn_ev (N := ["_law_number", "_law_k", "_law_drawn_here"]) (ps := ["_law_number", "_law_k"]) (k := 0) (g := b_law_drawn) F sc_law_drawn fun cdv A outer s H E hr => by
      have hu := room_un hr
      have hc : (cxOf CX0 P w K mg base ["_law_number", "_law_k", "_law_drawn_here"] "_law_drawn" (defScope s_law_drawn) f cdv A outer s H E).nox.calm = true := rfl
      have nd := sc_law_drawn.nd
      conv => arg 2; whnf
      exact (b_cons (s_set 2 nd (e_bin o_mod (e_bin o_mul (e_bin (o_add false) (e_bin (o_add false) (e_var 0) (e_bin o_mul e_int (e_var 1))) e_int) e_int) e_int)) (b_one (s_ret (e_bin o_mod (e_bin (o_add false) (e_bin (o_add false) (e_bin o_mul (e_var 2) (e_var 2)) (e_bin o_mul e_int (e_var 2))) (e_var 1)) e_int))))
  exact Df.refine (g := g_law_drawn) ⟨f, fd, ["_law_number", "_law_k"], hm, F.kp, bd, rfl, hF⟩ r_law_drawn
abbrev s_law_fan : Stmt := topS 18
theorem sc_law_fan : FnScope ["_law_number", "_law_most", "_law_base", "_law_steps", "_law_k", "_law_drawn_here", "_law_step"] ["_law_number", "_law_most"] (defScope s_law_fan) := ⟨rfl, rfl, rfl, by decide +kernel, rfl, by decide +kernel, by decide +kernel⟩
theorem d_law_fan {f : Addr} {fd : FuncData} (F : Fun K "_law_fan" "_law_fan" s_law_fan f fd) (bd : L2.Binds K fd ["_law_number", "_law_most"] []) (hm : mg "_law_fan" = some (.ref f)) (D_law_drawn : Df P w K mg base "_law_drawn" 1 2 p_law_drawn) (z_range : mg "range" = none) (z_sorted : mg "sorted" = none) (z_tuple : mg "tuple" = none) : Df P w K mg base "_law_fan" 2 2 p_law_fan := by
  have hF : FnOk P w K mg base CX0 (1 + 1) f fd ["_law_number", "_law_most"] (spD ⟨P, w, K⟩ (List.length ["_law_number", "_law_most"]) (runDef (List.length ["_law_number", "_law_most", "_law_base", "_law_steps", "_law_k", "_law_drawn_here", "_law_step"]) b_law_fan)) := fn_ev (N := ["_law_number", "_law_most", "_law_base", "_law_steps", "_law_k", "_law_drawn_here", "_law_step"]) (ps := ["_law_number", "_law_most"]) (k := 1) (g := b_law_fan) F sc_law_fan fun cdv A outer s H E hr => by
      have hu := room_un hr
      have hc : (cxOf CX0 P w K mg base ["_law_number", "_law_most", "_law_base", "_law_steps", "_law_k", "_law_drawn_here", "_law_step"] "_law_fan" (defScope s_law_fan) f cdv A outer s H E).nox.calm = true := rfl
      have nd := sc_law_fan.nd
      conv => arg 2; whnf
      exact (b_cons (s_set 2 nd (e_tup (a_cons (e_bin o_mod (e_var 0) (e_bin (o_add false) (e_var 1) e_int)) (a_cons (e_bin o_mod (e_bin o_fdiv (e_var 0) e_int) (e_bin (o_add false) (e_var 1) e_int)) a_nil)))) (b_cons (s_set 3 nd e_dnew) (b_cons (s_for PassesOwn.never hc (i_range1 z_range (a_cons (e_sub hu (e_tup (a_cons e_int (a_cons e_int (a_cons e_int (a_cons e_int (a_cons e_int (a_cons e_int (a_cons e_int a_nil)))))))) (e_bin o_mod (e_bin o_fdiv (e_var 0) e_int) e_int)) a_nil)) (g_name 4 nd) (b_cons (s_set 5 nd (e_call D_law_drawn hr (a_cons (e_var 0) (a_cons (e_var 4) a_nil)))) (b_cons (s_set 6 nd (e_tup (a_cons (e_bin o_mod (e_bin o_fdiv (e_var 5) e_int) e_int) (a_cons (e_bin o_mod (e_bin o_fdiv (e_var 5) e_int) e_int) a_nil)))) (b_cons (s_if (t_cmp (o_eq hu) (e_bin o_mod (e_var 5) e_int) e_int opEq_bl) (b_one (s_set 6 nd (e_tup (a_cons (e_bin o_mod (e_bin o_fdiv (e_var 5) e_int) e_int) (a_cons (e_bin o_mod (e_bin o_fdiv (e_var 5) e_int) e_int) a_nil))))) b_nil) (b_one (s_put hu (e_var 3) (e_var 6) e_bl)))))) (b_one (s_ret (e_tup (a_cons (e_var 2) (a_cons (e_bty f_tuple z_tuple (a_cons (e_lc (own := [("_law_step", 6)]) false hc nd (i_seq (e_blt (f_sorted hc hu false) z_sorted (a_cons (e_var 3) a_nil))) (blkOk_by (by kernel_rfl)) (by decide) (fun _ _ _ _ _ => (g_name 6 nd)) (fun _ _ _ _ _ => (ts_one (t_cmp (o_ne hu) (e_var 6) (e_tup (a_cons e_int (a_cons e_int a_nil))) opEq_bl))) (fun _ _ _ _ _ => (e_var 6))) a_nil)) a_nil))))))))
  exact Df.refine (g := g_law_fan) ⟨f, fd, ["_law_number", "_law_most"], hm, F.kp, bd, rfl, hF⟩ r_law_fan
abbrev s_law_spread : Stmt := topS 19
theorem sc_law_spread : FnScope ["_law_number", "_law_most", "_law_k"] ["_law_number", "_law_most"] (defScope s_law_spread) := ⟨rfl, rfl, rfl, by decide +kernel, rfl, by decide +kernel, by decide +kernel⟩
theorem d_law_spread {f : Addr} {fd : FuncData} (F : Fun K "_law_spread" "_law_spread" s_law_spread f fd) (bd : L2.Binds K fd ["_law_number", "_law_most"] []) (hm : mg "_law_spread" = some (.ref f)) (D_law_drawn : Df P w K mg base "_law_drawn" 1 2 p_law_drawn) (D_law_fan : Df P w K mg base "_law_fan" 2 2 p_law_fan) (z_range : mg "range" = none) (z_tuple : mg "tuple" = none) : Df P w K mg base "_law_spread" 3 2 p_law_spread := by
  have hF : FnOk P w K mg base CX0 (2 + 1) f fd ["_law_number", "_law_most"] (spD ⟨P, w, K⟩ (List.length ["_law_number", "_law_most"]) (runDef (List.length ["_law_number", "_law_most", "_law_k"]) b_law_spread)) := fn_ev (N := ["_law_number", "_law_most", "_law_k"]) (ps := ["_law_number", "_law_most"]) (k := 2) (g := b_law_spread) F sc_law_spread fun cdv A outer s H E hr => by
      have hu := room_un hr
      have hc : (cxOf CX0 P w K mg base ["_law_number", "_law_most", "_law_k"] "_law_spread" (defScope s_law_spread) f cdv A outer s H E).nox.calm = true := rfl
      have nd := sc_law_spread.nd
      conv => arg 2; whnf
      exact (b_one (s_ret (e_bty f_tuple z_tuple (a_cons (e_lc (own := [("_law_k", 2)]) false hc nd (i_range1 z_range (a_cons (e_sub hu (e_tup (a_cons e_int (a_cons e_int (a_cons e_int (a_cons e_int (a_cons e_int (a_cons e_int (a_cons e_int (a_cons e_int a_nil))))))))) (e_bin o_mod (e_var 0) e_int)) a_nil)) (blkOk_by (by kernel_rfl)) (by decide) (fun _ _ _ _ _ => (g_name 2 nd)) (fun _ _ _ _ _ => ts_nil) (fun _ _ _ _ _ => (e_call D_law_fan hr (a_cons (e_call D_law_drawn hr (a_cons (e_var 0) (a_cons (e_bin (o_add false) e_int (e_var 2)) a_nil))) (a_cons (e_var 1) a_nil))))) a_nil))))
  exact Df.refine (g := g_law_spread) ⟨f, fd, ["_law_number", "_law_most"], hm, F.kp, bd, rfl, hF⟩ r_law_spread
abbrev s_either : Stmt := topS 11
theorem sc_either : FnScope ["one", "other"] ["one", "other"] (defScope s_either) := ⟨rfl, rfl, rfl, by decide +kernel, rfl, by decide +kernel, by decide +kernel⟩
theorem d_either {f : Addr} {fd : FuncData} (F : Fun K "either" "either" s_either f fd) (bd : L2.Binds K fd ["one", "other"] []) (hm : mg "either" = some (.ref f)) : Df P w K mg base "either" 1 2 p_either := by
  have hF : FnOk P w K mg base CX0 (0 + 1) f fd ["one", "other"] (spD ⟨P, w, K⟩ (List.length ["one", "other"]) (runDef (List.length ["one", "other"]) b_either)) := fn_ev (N := ["one", "other"]) (ps := ["one", "other"]) (k := 0) (g := b_either) F sc_either fun cdv A outer s H E hr => by
      have hu := room_un hr
      have hc : (cxOf CX0 P w K mg base ["one", "other"] "either" (defScope s_either) f cdv A outer s H E).nox.calm = true := rfl
      have nd := sc_either.nd
      conv => arg 2; whnf
      exact (b_one (s_ret (e_bin (o_add false) (e_var 0) (e_var 1))))
  exact Df.refine (g := g_either) ⟨f, fd, ["one", "other"], hm, F.kp, bd, rfl, hF⟩ r_either
abbrev s_times_for : Stmt := topS 3
theorem sc_times_for : FnScope ["steps", "left", "known", "many", "here", "rest"] ["steps", "left", "known"] (defScope s_times_for) := ⟨rfl, rfl, rfl, by decide +kernel, rfl, by decide +kernel, by decide +kernel⟩
theorem d1_times_for {f : Addr} {fd : FuncData} (F : Fun K "times_for" "times_for" s_times_for f fd) (bd : L2.Binds K fd ["steps", "left", "known"] []) (hm : mg "times_for" = some (.ref f)) (z_len : mg "len" = none) {k : Nat} {rec : List D → M D} (D_rec : Df P w K mg base "times_for" (0 + k) 3 rec) : Df P w K mg base "times_for" (0 + k + 1) 3 (runDef 6 (b_times_for rec)) := by
  have hF : FnOk P w K mg base CX0 (0 + k + 1) f fd ["steps", "left", "known"] (spD ⟨P, w, K⟩ (List.length ["steps", "left", "known"]) (runDef (List.length ["steps", "left", "known", "many", "here", "rest"]) (b_times_for rec))) := fn_ev (N := ["steps", "left", "known", "many", "here", "rest"]) (ps := ["steps", "left", "known"]) (k := 0 + k) (g := b_times_for rec) F sc_times_for fun cdv A outer s H E hr => by
      have hu := room_un hr
      have hc : (cxOf CX0 P w K mg base ["steps", "left", "known", "many", "here", "rest"] "times_for" (defScope s_times_for) f cdv A outer s H E).nox.calm = true := rfl
      have nd := sc_times_for.nd
      conv => arg 2; whnf
      exact (b_cons (s_if (t_cmp (o_eq hu) (e_blt f_len0 z_len (a_cons (e_var 0) a_nil)) e_int opEq_bl) (b_cons (s_if (t_cmp (o_eq hu) (e_var 1) (e_tup (a_cons e_int (a_cons e_int a_nil))) opEq_bl) (b_one (s_ret (e_tup a_nil))) b_nil) (b_one (s_ret e_non))) b_nil) (b_cons (s_if (t_cmp (o_in hu) (e_tup (a_cons (e_blt f_len0 z_len (a_cons (e_var 0) a_nil)) (a_cons (e_var 1) a_nil))) (e_var 2) opIn_bl) (b_one (s_ret e_non)) b_nil) (b_cons (s_set 3 nd e_int) (b_cons (s_set 4 nd (e_var 1)) (b_cons (s_while PassesOwn.never (w_t (w_and (t_cmp o_ge (e_sub hu (e_var 4) e_int) e_int opGe_bl) (w_and1 (t_cmp o_ge (e_sub hu (e_var 4) e_int) e_int opGe_bl)))) (b_cons (s_set 5 nd (e_call D_rec hr (a_cons (e_sl false (e_var 0) (o_yes e_int) o_no) (a_cons (e_var 4) (a_cons (e_var 2) a_nil))) (Nat.le_refl _))) (b_cons (s_if (t_cmp o_isnot (e_var 5) e_non opIs_bl) (b_one (s_ret (e_bin (o_add false) (e_tup (a_cons (e_var 3) a_nil)) (e_var 5)))) b_nil) (b_cons (s_set 3 nd (e_bin (o_add false) (e_var 3) e_int)) (b_one (s_set 4 nd (e_tup (a_cons (e_bin o_sub (e_sub hu (e_var 4) e_int) (e_sub hu (e_sub hu (e_var 0) e_int) e_int)) (a_cons (e_bin o_sub (e_sub hu (e_var 4) e_int) (e_sub hu (e_sub hu (e_var 0) e_int) e_int)) a_nil))))))))) (b_cons (s_put hu (e_var 2) (e_tup (a_cons (e_blt f_len0 z_len (a_cons (e_var 0) a_nil)) (a_cons (e_var 1) a_nil))) e_bl) (b_one (s_ret e_non))))))))
  exact ⟨f, fd, ["steps", "left", "known"], hm, F.kp, bd, rfl, hF⟩
theorem d2_times_for {f : Addr} {fd : FuncData} (F : Fun K "times_for" "times_for" s_times_for f fd) (bd : L2.Binds K fd ["steps", "left", "known"] []) (hm : mg "times_for" = some (.ref f)) (z_len : mg "len" = none) : ∀ d : Nat, Df P w K mg base "times_for" (0 + d) 3 (g_times_for d)
  | 0 => Df.none hm F.kp bd rfl
  | d + 1 => d1_times_for F bd hm z_len (d2_times_for F bd hm z_len d)
theorem d_times_for {f : Addr} {fd : FuncData} (F : Fun K "times_for" "times_for" s_times_for f fd) (bd : L2.Binds K fd ["steps", "left", "known"] []) (hm : mg "times_for" = some (.ref f)) (z_len : mg "len" = none) : Df P w K mg base "times_for" 64 3 (g_times_for 64) := d2_times_for F bd hm z_len 64
abbrev s_how_in : Stmt := topS 4
theorem sc_how_in : FnScope ["fan", "count", "left"] ["fan", "count"] (defScope s_how_in) := ⟨rfl, rfl, rfl, by decide +kernel, rfl, by decide +kernel, by decide +kernel⟩
theorem d_how_in {f : Addr} {fd : FuncData} (F : Fun K "how_in" "how_in" s_how_in f fd) (bd : L2.Binds K fd ["fan", "count"] []) (hm : mg "how_in" = some (.ref f)) (D_times_for : Df P w K mg base "times_for" 64 3 (g_times_for 64)) : Df P w K mg base "how_in" 65 2 p_how_in := by
  have hF : FnOk P w K mg base CX0 (64 + 1) f fd ["fan", "count"] (spD ⟨P, w, K⟩ (List.length ["fan", "count"]) (runDef (List.length ["fan", "count", "left"]) b_how_in)) := fn_ev (N := ["fan", "count", "left"]) (ps := ["fan", "count"]) (k := 64) (g := b_how_in) F sc_how_in fun cdv A outer s H E hr => by
      have hu := room_un hr
      have hc : (cxOf CX0 P w K mg base ["fan", "count", "left"] "how_in" (defScope s_how_in) f cdv A outer s H E).nox.calm = true := rfl
      have nd := sc_how_in.nd
      conv => arg 2; whnf
      exact (b_cons (s_set 2 nd (e_tup (a_cons (e_bin o_sub (e_sub hu (e_var 1) e_int) (e_sub hu (e_sub hu (e_var 0) e_int) e_int)) (a_cons (e_bin o_sub (e_sub hu (e_var 1) e_int) (e_sub hu (e_sub hu (e_var 0) e_int) e_int)) a_nil)))) (b_cons (s_if (w_t (w_or (t_cmp o_lt (e_sub hu (e_var 2) e_int) e_int opLt_bl) (w_or1 (t_cmp o_lt (e_sub hu (e_var 2) e_int) e_int opLt_bl)))) (b_one (s_ret e_non)) b_nil) (b_one (s_ret (e_call D_times_for hr (a_cons (e_sub hu (e_var 0) e_int) (a_cons (e_var 2) (a_cons e_dnew a_nil))))))))
  exact Df.refine (g := g_how_in) ⟨f, fd, ["fan", "count"], hm, F.kp, bd, rfl, hF⟩ r_how_in
abbrev s_needed : Stmt := topS 8
theorem sc_needed : FnScope ["steps", "kept", "step"] ["steps"] (defScope s_needed) := ⟨rfl, rfl, rfl, by decide +kernel, rfl, by decide +kernel, by decide +kernel⟩
theorem d_needed {f : Addr} {fd : FuncData} (F : Fun K "needed" "needed" s_needed f fd) (bd : L2.Binds K fd ["steps"] []) (hm : mg "needed" = some (.ref f)) (D_how_in : Df P w K mg base "how_in" 65 2 p_how_in) (z_list : mg "list" = none) (z_sorted : mg "sorted" = none) (z_tuple : mg "tuple" = none) {tc tp : Addr} (hTB : LamX.TabB base mg tc tp) (hcd : fd.code = .ref tc) (hmT : (tp, ((("needed" : Str) ++ (".<locals>." : Str)) ++ ("<lambda>" : Str))) ∈ Tb.T) (huT : ∀ p ∈ Tb.T, p.1 = tp → p.2 = ((("needed" : Str) ++ (".<locals>." : Str)) ++ ("<lambda>" : Str))) : Df P w K mg base "needed" 66 1 p_needed := by
  have hF : FnOk P w K mg base CX0 (65 + 1) f fd ["steps"] (spD ⟨P, w, K⟩ (List.length ["steps"]) (runDef (List.length ["steps", "kept", "step"]) b_needed)) := fn_evC (N := ["steps", "kept", "step"]) (ps := ["steps"]) (k := 65) (g := b_needed) F sc_needed fun  A outer s H E hr => by
      have hu := room_un hr
      have hcode : (cxOf CX0 P w K mg base ["steps", "kept", "step"] "needed" (defScope s_needed) f fd.code A outer s H E).nox.env.code = .ref tc := hcd
      have hc : (cxOf CX0 P w K mg base ["steps", "kept", "step"] "needed" (defScope s_needed) f fd.code A outer s H E).nox.calm = true := rfl
      have nd := sc_needed.nd
      conv => arg 2; whnf
      exact (b_cons (s_set 1 nd (e_lst true a_nil)) (b_cons (s_for PassesOwn.never hc (i_seq (e_sortK false rfl z_sorted hc hu (e_bty (f_list false) z_list (a_cons (e_var 0) a_nil)) (keyL_sum hr ⟨rfl, rfl, rfl, fun _ _ _ _ _ => rfl, rfl, by decide, by decide⟩) (by decide) rfl hTB hcode hmT huT rfl)) (g_name 2 nd) (b_one (s_if (w_t (w_and (t_cmp (o_ne hu) (e_var 2) (e_tup (a_cons e_int (a_cons e_int a_nil))) opEq_bl) (w_and1 (t_cmp o_is (e_call D_how_in hr (a_cons (e_tup (a_cons (e_tup (a_cons e_int (a_cons e_int a_nil))) (a_cons (e_bty f_tuple z_tuple (a_cons (e_var 1) a_nil)) a_nil))) (a_cons (e_var 2) a_nil))) e_non opIs_bl)))) (b_one (s_expr (e_bm PySem.F.plainAttrs_list PySem.F.slot_list_append PySem.F.type_list_append m_append (e_var 1) (a_cons (e_var 2) a_nil)))) b_nil))) (b_one (s_ret (e_bty f_tuple z_tuple (a_cons (e_blt (f_sorted hc hu false) z_sorted (a_cons (e_var 1) a_nil)) a_nil))))))
  exact Df.refine (g := g_needed) ⟨f, fd, ["steps"], hm, F.kp, bd, rfl, hF⟩ r_needed
abbrev s_added : Stmt := topS 1
theorem sc_added : FnScope ["one", "other"] ["one", "other"] (defScope s_added) := ⟨rfl, rfl, rfl, by decide +kernel, rfl, by decide +kernel, by decide +kernel⟩
theorem d_added {f : Addr} {fd : FuncData} (F : Fun K "added" "added" s_added f fd) (bd : L2.Binds K fd ["one", "other"] []) (hm : mg "added" = some (.ref f)) : Df P w K mg base "added" 1 2 p_added := by
  have hF : FnOk P w K mg base CX0 (0 + 1) f fd ["one", "other"] (spD ⟨P, w, K⟩ (List.length ["one", "other"]) (runDef (List.length ["one", "other"]) b_added)) := fn_ev (N := ["one", "other"]) (ps := ["one", "other"]) (k := 0) (g := b_added) F sc_added fun cdv A outer s H E hr => by
      have hu := room_un hr
      have hc : (cxOf CX0 P w K mg base ["one", "other"] "added" (defScope s_added) f cdv A outer s H E).nox.calm = true := rfl
      have nd := sc_added.nd
      conv => arg 2; whnf
      exact (b_one (s_ret (e_tup (a_cons (e_bin (o_add false) (e_sub hu (e_var 0) e_int) (e_sub hu (e_var 1) e_int)) (a_cons (e_bin (o_add false) (e_sub hu (e_var 0) e_int) (e_sub hu (e_var 1) e_int)) a_nil)))))
  exact Df.refine (g := g_added) ⟨f, fd, ["one", "other"], hm, F.kp, bd, rfl, hF⟩ r_added
abbrev s_lies_in : Stmt := topS 9
theorem sc_lies_in : FnScope ["fan", "other", "step"] ["fan", "other"] (defScope s_lies_in) := ⟨rfl, rfl, rfl, by decide +kernel, rfl, by decide +kernel, by decide +kernel⟩
theorem d_lies_in {f : Addr} {fd : FuncData} (F : Fun K "lies_in" "lies_in" s_lies_in f fd) (bd : L2.Binds K fd ["fan", "other"] []) (hm : mg "lies_in" = some (.ref f)) (D_how_in : Df P w K mg base "how_in" 65 2 p_how_in) (z_all : mg "all" = none) : Df P w K mg base "lies_in" 66 2 p_lies_in := by
  have hF : FnOk P w K mg base CX0 (65 + 1) f fd ["fan", "other"] (spD ⟨P, w, K⟩ (List.length ["fan", "other"]) (runDef (List.length ["fan", "other", "step"]) b_lies_in)) := fn_ev (N := ["fan", "other", "step"]) (ps := ["fan", "other"]) (k := 65) (g := b_lies_in) F sc_lies_in fun cdv A outer s H E hr => by
      have hu := room_un hr
      have hc : (cxOf CX0 P w K mg base ["fan", "other", "step"] "lies_in" (defScope s_lies_in) f cdv A outer s H E).nox.calm = true := rfl
      have nd := sc_lies_in.nd
      conv => arg 2; whnf
      exact (b_cons (s_if (t_cmp o_is (e_call D_how_in hr (a_cons (e_var 1) (a_cons (e_sub hu (e_var 0) e_int) a_nil))) e_non opIs_bl) (b_one (s_ret e_bl)) b_nil) (b_one (s_ret (e_blt (f_all hc) z_all (a_cons (e_lc (own := [("step", 2)]) false hc nd (i_seq (e_sub hu (e_var 0) e_int)) (blkOk_by (by kernel_rfl)) (by decide) (fun _ _ _ _ _ => (g_name 2 nd)) (fun _ _ _ _ _ => ts_nil) (fun _ _ _ _ _ => (e_cmp o_isnot (e_call D_how_in hr (a_cons (e_tup (a_cons (e_tup (a_cons e_int (a_cons e_int a_nil))) (a_cons (e_sub hu (e_var 1) e_int) a_nil))) (a_cons (e_var 2) a_nil))) e_non))) a_nil)))))
  exact Df.refine (g := g_lies_in) ⟨f, fd, ["fan", "other"], hm, F.kp, bd, rfl, hF⟩ r_lies_in
abbrev s_trimmed : Stmt := topS 10
theorem sc_trimmed : FnScope ["fans", "kept", "fan", "other"] ["fans"] (defScope s_trimmed) := ⟨rfl, rfl, rfl, by decide +kernel, rfl, by decide +kernel, by decide +kernel⟩
theorem d_trimmed {f : Addr} {fd : FuncData} (F : Fun K "trimmed" "trimmed" s_trimmed f fd) (bd : L2.Binds K fd ["fans"] []) (hm : mg "trimmed" = some (.ref f)) (D_lies_in : Df P w K mg base "lies_in" 66 2 p_lies_in) (z_any : mg "any" = none) (z_sorted : mg "sorted" = none) (z_tuple : mg "tuple" = none) : Df P w K mg base "trimmed" 67 1 p_trimmed := by
  have hF : FnOk P w K mg base CX0 (66 + 1) f fd ["fans"] (spD ⟨P, w, K⟩ (List.length ["fans"]) (runDef (List.length ["fans", "kept", "fan", "other"]) b_trimmed)) := fn_ev (N := ["fans", "kept", "fan", "other"]) (ps := ["fans"]) (k := 66) (g := b_trimmed) F sc_trimmed fun cdv A outer s H E hr => by
      have hu := room_un hr
      have hc : (cxOf CX0 P w K mg base ["fans", "kept", "fan", "other"] "trimmed" (defScope s_trimmed) f cdv A outer s H E).nox.calm = true := rfl
      have nd := sc_trimmed.nd
      conv => arg 2; whnf
      exact (b_cons (s_set 1 nd (e_lst false a_nil)) (b_cons (s_for PassesOwn.never hc (i_seq (e_var 0)) (g_name 2 nd) (b_one (s_if (t_not (t_of (e_blt (f_any hc) z_any (a_cons (e_lc (own := [("other", 3)]) false hc nd (i_seq (e_var 1)) (blkOk_by (by kernel_rfl)) (by decide) (fun _ _ _ _ _ => (g_name 3 nd)) (fun _ _ _ _ _ => ts_nil) (fun _ _ _ _ _ => (e_call D_lies_in hr (a_cons (e_var 2) (a_cons (e_var 3) a_nil))))) a_nil)))) (b_one (s_set 1 nd (e_bin (o_add false) (e_lc (own := [("other", 3)]) false hc nd (i_seq (e_var 1)) (blkOk_by (by kernel_rfl)) (by decide) (fun _ _ _ _ _ => (g_name 3 nd)) (fun _ _ _ _ _ => (ts_one (t_not (t_of (e_call D_lies_in hr (a_cons (e_var 3) (a_cons (e_var 2) a_nil))))))) (fun _ _ _ _ _ => (e_var 3))) (e_lst false (a_cons (e_var 2) a_nil))))) b_nil))) (b_one (s_ret (e_bty f_tuple z_tuple (a_cons (e_blt (f_sorted hc hu false) z_sorted (a_cons (e_var 1) a_nil)) a_nil))))))
  exact Df.refine (g := g_trimmed) ⟨f, fd, ["fans"], hm, F.kp, bd, rfl, hF⟩ r_trimmed
abbrev s_sums : Stmt := topS 12
theorem sc_sums : FnScope ["one", "other", "found", "base", "steps", "more", "others"] ["one", "other"] (defScope s_sums) := ⟨rfl, rfl, rfl, by decide +kernel, rfl, by decide +kernel, by decide +kernel⟩
theorem d_sums {f : Addr} {fd : FuncData} (F : Fun K "sums" "sums" s_sums f fd) (bd : L2.Binds K fd ["one", "other"] []) (hm : mg "sums" = some (.ref f)) (D_needed : Df P w K mg base "needed" 66 1 p_needed) (D_added : Df P w K mg base "added" 1 2 p_added) (D_trimmed : Df P w K mg base "trimmed" 67 1 p_trimmed) : Df P w K mg base "sums" 68 2 p_sums := by
  have hF : FnOk P w K mg base CX0 (67 + 1) f fd ["one", "other"] (spD ⟨P, w, K⟩ (List.length ["one", "other"]) (runDef (List.length ["one", "other", "found", "base", "steps", "more", "others"]) b_sums)) := fn_ev (N := ["one", "other", "found", "base", "steps", "more", "others"]) (ps := ["one", "other"]) (k := 67) (g := b_sums) F sc_sums fun cdv A outer s H E hr => by
      have hu := room_un hr
      have hc : (cxOf CX0 P w K mg base ["one", "other", "found", "base", "steps", "more", "others"] "sums" (defScope s_sums) f cdv A outer s H E).nox.calm = true := rfl
      have nd := sc_sums.nd
      conv => arg 2; whnf
      exact (b_cons (s_set 2 nd (e_lst true a_nil)) (b_cons (s_for PassesOwn.never hc (i_seq (e_var 0)) (g_tup 2 hc (gs_cons (g_name 3 nd) (gs_cons (g_name 4 nd) gs_nil))) (b_one (s_expr (e_bm PySem.F.plainAttrs_list PySem.F.slot_list_extend PySem.F.type_list_extend m_extend (e_var 2) (a_cons (e_lc (own := [("more", 5), ("others", 6)]) false hc nd (i_seq (e_var 1)) (blkOk_by (by kernel_rfl)) (by decide) (fun _ _ _ _ _ => (g_tup 2 hc (gs_cons (g_name 5 nd) (gs_cons (g_name 6 nd) gs_nil)))) (fun _ _ _ _ _ => ts_nil) (fun _ _ _ _ _ => (e_tup (a_cons (e_call D_added hr (a_cons (e_var 3) (a_cons (e_var 5) a_nil))) (a_cons (e_call D_needed hr (a_cons (e_bin (o_add false) (e_var 4) (e_var 6)) a_nil)) a_nil))))) a_nil))))) (b_one (s_ret (e_call D_trimmed hr (a_cons (e_var 2) a_nil))))))
  exact Df.refine (g := g_sums) ⟨f, fd, ["one", "other"], hm, F.kp, bd, rfl, hF⟩ r_sums
abbrev s_law_is_told : Stmt := topS 23
theorem sc_law_is_told : FnScope ["_law_spread_here", "_law_base", "_law_steps", "_law_count", "_law_part"] ["_law_spread_here"] (defScope s_law_is_told) := ⟨rfl, rfl, rfl, by decide +kernel, rfl, by decide +kernel, by decide +kernel⟩
theorem d_law_is_told {f : Addr} {fd : FuncData} (F : Fun K "_law_is_told" "_law_is_told" s_law_is_told f fd) (bd : L2.Binds K fd ["_law_spread_here"] []) (hm : mg "_law_is_told" = some (.ref f)) (z_bool : mg "bool" = none) (z_int : mg "int" = none) (z_isinstance : mg "isinstance" = none) (z_len : mg "len" = none) (z_min : mg "min" = none) (z_tuple : mg "tuple" = none) : Df P w K mg base "_law_is_told" 1 1 p_law_is_told := by
  have hF : FnOk P w K mg base CX0 (0 + 1) f fd ["_law_spread_here"] (spD ⟨P, w, K⟩ (List.length ["_law_spread_here"]) (runDef (List.length ["_law_spread_here", "_law_base", "_law_steps", "_law_count", "_law_part"]) b_law_is_told)) := fn_ev (N := ["_law_spread_here", "_law_base", "_law_steps", "_law_count", "_law_part"]) (ps := ["_law_spread_here"]) (k := 0) (g := b_law_is_told) F sc_law_is_told fun cdv A outer s H E hr => by
      have hu := room_un hr
      have hc : (cxOf CX0 P w K mg base ["_law_spread_here", "_law_base", "_law_steps", "_law_count", "_law_part"] "_law_is_told" (defScope s_law_is_told) f cdv A outer s H E).nox.calm = true := rfl
      have nd := sc_law_is_told.nd
      conv => arg 2; whnf
      exact (b_cons (s_if (t_not (t_of (e_isi z_isinstance z_tuple (e_var 0)))) (b_one (s_ret e_bl)) b_nil) (b_cons (s_for PassesOwn.never hc (i_seq (e_var 0)) (g_tup 2 hc (gs_cons (g_name 1 nd) (gs_cons (g_name 2 nd) gs_nil))) (b_cons (s_for PassesOwn.never hc (i_seq (e_bin (o_add false) (e_tup (a_cons (e_var 1) a_nil)) (e_var 2))) (g_name 3 nd) (b_cons (s_if (w_t (w_or (t_not (t_of (e_isi z_isinstance z_tuple (e_var 3)))) (w_or (t_cmp (o_ne hu) (e_blt f_len0 z_len (a_cons (e_var 3) a_nil)) e_int opEq_bl) (w_or1 (t_cmp o_lt (e_blt (f_min hc hu) z_min (a_cons (e_var 3) a_nil)) e_int opLt_bl))))) (b_one (s_ret e_bl)) b_nil) (b_one (s_if (t_cmp (o_ne hu) (e_lc (own := [("_law_part", 4)]) false hc nd (i_seq (e_var 3)) (blkOk_by (by kernel_rfl)) (by decide) (fun _ _ _ _ _ => (g_name 4 nd)) (fun _ _ _ _ _ => (ts_one (w_t (w_or (t_not (t_of (e_isi z_isinstance z_int (e_var 4)))) (w_or1 (t_of (e_isi z_isinstance z_bool (e_var 4)))))))) (fun _ _ _ _ _ => (e_var 4))) (e_lst false a_nil) opEq_bl) (b_one (s_ret e_bl)) b_nil)))) (b_one (s_if (t_cmp (o_in hu) (e_tup (a_cons e_int (a_cons e_int a_nil))) (e_var 2) opIn_bl) (b_one (s_ret e_bl)) b_nil)))) (b_one (s_ret e_bl))))
  exact Df.refine (g := g_law_is_told) ⟨f, fd, ["_law_spread_here"], hm, F.kp, bd, rfl, hF⟩ r_law_is_told
abbrev s_law_had : Stmt := topS 20
theorem sc_law_had : FnScope ["_law_fan_here", "_law_most", "_law_found", "_law_todo", "_law_here", "_law_step"] ["_law_fan_here", "_law_most"] (defScope s_law_had) := ⟨rfl, rfl, rfl, by decide +kernel, rfl, by decide +kernel, by decide +kernel⟩
theorem d_law_had {f : Addr} {fd : FuncData} (F : Fun K "_law_had" "_law_had" s_law_had f fd) (bd : L2.Binds K fd ["_law_fan_here", "_law_most"] []) (hm : mg "_law_had" = some (.ref f)) (z_max : mg "max" = none) : Df P w K mg base "_law_had" 1 2 p_law_had := by
  have hF : FnOk P w K mg base CX0 (0 + 1) f fd ["_law_fan_here", "_law_most"] (spD ⟨P, w, K⟩ (List.length ["_law_fan_here", "_law_most"]) (runDef (List.length ["_law_fan_here", "_law_most", "_law_found", "_law_todo", "_law_here", "_law_step"]) b_law_had)) := fn_ev (N := ["_law_fan_here", "_law_most", "_law_found", "_law_todo", "_law_here", "_law_step"]) (ps := ["_law_fan_here", "_law_most"]) (k := 0) (g := b_law_had) F sc_law_had fun cdv A outer s H E hr => by
      have hu := room_un hr
      have hc : (cxOf CX0 P w K mg base ["_law_fan_here", "_law_most", "_law_found", "_law_todo", "_law_here", "_law_step"] "_law_had" (defScope s_law_had) f cdv A outer s H E).nox.calm = true := rfl
      have nd := sc_law_had.nd
      conv => arg 2; whnf
      exact (b_cons (s_set 2 nd e_dnew) (b_cons (s_set 3 nd (e_lst true (a_cons (e_sub hu (e_var 0) e_int) a_nil))) (b_cons (s_while PassesOwn.never (t_cmp (o_ne hu) (e_var 3) (e_lst false a_nil) opEq_bl) (b_cons (s_set 4 nd (e_bm0 PySem.F.plainAttrs_list PySem.F.slot_list_pop PySem.F.type_list_pop m_pop (e_var 3))) (b_one (s_if (w_t (w_and (t_cmp o_le (e_blt (f_max hc hu) z_max (a_cons (e_var 4) a_nil)) (e_var 1) opLe_bl) (w_and1 (t_cmp (o_notIn hu) (e_var 4) (e_var 2) opIn_bl)))) (b_cons (s_put hu (e_var 2) (e_var 4) e_bl) (b_one (s_set 3 nd (e_bin (o_add true) (e_var 3) (e_lc (own := [("_law_step", 5)]) false hc nd (i_seq (e_sub hu (e_var 0) e_int)) (blkOk_by (by kernel_rfl)) (by decide) (fun _ _ _ _ _ => (g_name 5 nd)) (fun _ _ _ _ _ => ts_nil) (fun _ _ _ _ _ => (e_tup (a_cons (e_bin (o_add false) (e_sub hu (e_var 4) e_int) (e_sub hu (e_var 5) e_int)) (a_cons (e_bin (o_add false) (e_sub hu (e_var 4) e_int) (e_sub hu (e_var 5) e_int)) a_nil))))))))) b_nil)))) (b_one (s_ret (e_var 2))))))
  exact Df.refine (g := g_law_had) ⟨f, fd, ["_law_fan_here", "_law_most"], hm, F.kp, bd, rfl, hF⟩ r_law_had
abbrev s_law_few : Stmt := topS 21
theorem sc_law_few : FnScope ["_law_spread_here", "_law_most", "_law_found", "_law_fan_here"] ["_law_spread_here", "_law_most"] (defScope s_law_few) := ⟨rfl, rfl, rfl, by decide +kernel, rfl, by decide +kernel, by decide +kernel⟩
theorem d_law_few {f : Addr} {fd : FuncData} (F : Fun K "_law_few" "_law_few" s_law_few f fd) (bd : L2.Binds K fd ["_law_spread_here", "_law_most"] []) (hm : mg "_law_few" = some (.ref f)) (D_law_had : Df P w K mg base "_law_had" 1 2 p_law_had) : Df P w K mg base "_law_few" 2 2 p_law_few := by
  have hF : FnOk P w K mg base CX0 (1 + 1) f fd ["_law_spread_here", "_law_most"] (spD ⟨P, w, K⟩ (List.length ["_law_spread_here", "_law_most"]) (runDef (List.length ["_law_spread_here", "_law_most", "_law_found", "_law_fan_here"]) b_law_few)) := fn_ev (N := ["_law_spread_here", "_law_most", "_law_found", "_law_fan_here"]) (ps := ["_law_spread_here", "_law_most"]) (k := 1) (g := b_law_few) F sc_law_few fun cdv A outer s H E hr => by
      have hu := room_un hr
      have hc : (cxOf CX0 P w K mg base ["_law_spread_here", "_law_most", "_law_found", "_law_fan_here"] "_law_few" (defScope s_law_few) f cdv A outer s H E).nox.calm = true := rfl
      have nd := sc_law_few.nd
      conv => arg 2; whnf
      exact (b_cons (s_set 2 nd e_dnew) (b_cons (s_for PassesOwn.never hc (i_seq (e_var 0)) (g_name 3 nd) (b_one (s_expr (e_dm PySem.F.plainAttrs_dict PySem.F.slot_dict_update PySem.F.type_dict_update (m_dupdate hu) (e_var 2) (a_cons (e_call D_law_had hr (a_cons (e_var 3) (a_cons (e_var 1) a_nil))) a_nil))))) (b_one (s_ret (e_var 2)))))
  exact Df.refine (g := g_law_few) ⟨f, fd, ["_law_spread_here", "_law_most"], hm, F.kp, bd, rfl, hF⟩ r_law_few
abbrev s_few_in : Stmt := topS 5
theorem sc_few_in : FnScope ["fan", "most", "found", "todo", "here", "step"] ["fan", "most"] (defScope s_few_in) := ⟨rfl, rfl, rfl, by decide +kernel, rfl, by decide +kernel, by decide +kernel⟩
theorem d_few_in {f : Addr} {fd : FuncData} (F : Fun K "few_in" "few_in" s_few_in f fd) (bd : L2.Binds K fd ["fan", "most"] []) (hm : mg "few_in" = some (.ref f)) (D_added : Df P w K mg base "added" 1 2 p_added) (z_len : mg "len" = none) (z_max : mg "max" = none) : Df P w K mg base "few_in" 2 2 p_few_in := by
  have hF : FnOk P w K mg base CX0 (1 + 1) f fd ["fan", "most"] (spD ⟨P, w, K⟩ (List.length ["fan", "most"]) (runDef (List.length ["fan", "most", "found", "todo", "here", "step"]) b_few_in)) := fn_ev (N := ["fan", "most", "found", "todo", "here", "step"]) (ps := ["fan", "most"]) (k := 1) (g := b_few_in) F sc_few_in fun cdv A outer s H E hr => by
      have hu := room_un hr
      have hc : (cxOf CX0 P w K mg base ["fan", "most", "found", "todo", "here", "step"] "few_in" (defScope s_few_in) f cdv A outer s H E).nox.calm = true := rfl
      have nd := sc_few_in.nd
      conv => arg 2; whnf
      exact (b_cons (s_set 2 nd e_dnew) (b_cons (s_set 3 nd (e_lst true (a_cons (e_sub hu (e_var 0) e_int) a_nil))) (b_cons (s_while PassesOwn.never (t_cmp o_gt (e_blt f_len0 z_len (a_cons (e_var 3) a_nil)) e_int opGt_bl) (b_cons (s_set 4 nd (e_bm0 PySem.F.plainAttrs_list PySem.F.slot_list_pop PySem.F.type_list_pop m_pop (e_var 3))) (b_one (s_if (w_t (w_and (t_cmp o_le (e_blt (f_max hc hu) z_max (a_cons (e_var 4) a_nil)) (e_var 1) opLe_bl) (w_and1 (t_cmp (o_notIn hu) (e_var 4) (e_var 2) opIn_bl)))) (b_cons (s_put hu (e_var 2) (e_var 4) e_bl) (b_one (s_expr (e_bm PySem.F.plainAttrs_list PySem.F.slot_list_extend PySem.F.type_list_extend m_extend (e_var 3) (a_cons (e_lc (own := [("step", 5)]) false hc nd (i_seq (e_sub hu (e_var 0) e_int)) (blkOk_by (by kernel_rfl)) (by decide) (fun _ _ _ _ _ => (g_name 5 nd)) (fun _ _ _ _ _ => ts_nil) (fun _ _ _ _ _ => (e_call D_added hr (a_cons (e_var 4) (a_cons (e_var 5) a_nil))))) a_nil))))) b_nil)))) (b_one (s_ret (e_var 2))))))
  exact Df.refine (g := g_few_in) ⟨f, fd, ["fan", "most"], hm, F.kp, bd, rfl, hF⟩ r_few_in
abbrev s_few : Stmt := topS 6
theorem sc_few : FnScope ["spread", "most", "found", "fan"] ["spread", "most"] (defScope s_few) := ⟨rfl, rfl, rfl, by decide +kernel, rfl, by decide +kernel, by decide +kernel⟩
theorem d_few {f : Addr} {fd : FuncData} (F : Fun K "few" "few" s_few f fd) (bd : L2.Binds K fd ["spread", "most"] []) (hm : mg "few" = some (.ref f)) (D_few_in : Df P w K mg base "few_in" 2 2 p_few_in) (z_sorted : mg "sorted" = none) (z_tuple : mg "tuple" = none) : Df P w K mg base "few" 3 2 p_few := by
  have hF : FnOk P w K mg base CX0 (2 + 1) f fd ["spread", "most"] (spD ⟨P, w, K⟩ (List.length ["spread", "most"]) (runDef (List.length ["spread", "most", "found", "fan"]) b_few)) := fn_ev (N := ["spread", "most", "found", "fan"]) (ps := ["spread", "most"]) (k := 2) (g := b_few) F sc_few fun cdv A outer s H E hr => by
      have hu := room_un hr
      have hc : (cxOf CX0 P w K mg base ["spread", "most", "found", "fan"] "few" (defScope s_few) f cdv A outer s H E).nox.calm = true := rfl
      have nd := sc_few.nd
      conv => arg 2; whnf
      exact (b_cons (s_set 2 nd e_dnew) (b_cons (s_for PassesOwn.never hc (i_seq (e_var 0)) (g_name 3 nd) (b_one (s_expr (e_dm PySem.F.plainAttrs_dict PySem.F.slot_dict_update PySem.F.type_dict_update (m_dupdate hu) (e_var 2) (a_cons (e_call D_few_in hr (a_cons (e_var 3) (a_cons (e_var 1) a_nil))) a_nil))))) (b_one (s_ret (e_bty f_tuple z_tuple (a_cons (e_blt (f_sorted hc hu false) z_sorted (a_cons (e_var 2) a_nil)) a_nil))))))
  exact Df.refine (g := g_few) ⟨f, fd, ["spread", "most"], hm, F.kp, bd, rfl, hF⟩ r_few
abbrev s_law_both : Stmt := topS 22
theorem sc_law_both : FnScope ["_law_one", "_law_other", "_law_most", "_law_found", "_law_first", "_law_second", "_law_both_here"] ["_law_one", "_law_other", "_law_most"] (defScope s_law_both) := ⟨rfl, rfl, rfl, by decide +kernel, rfl, by decide +kernel, by decide +kernel⟩
theorem d_law_both {f : Addr} {fd : FuncData} (F : Fun K "_law_both" "_law_both" s_law_both f fd) (bd : L2.Binds K fd ["_law_one", "_law_other", "_law_most"] []) (hm : mg "_law_both" = some (.ref f)) (z_max : mg "max" = none) : Df P w K mg base "_law_both" 1 3 p_law_both := by
  have hF : FnOk P w K mg base CX0 (0 + 1) f fd ["_law_one", "_law_other", "_law_most"] (spD ⟨P, w, K⟩ (List.length ["_law_one", "_law_other", "_law_most"]) (runDef (List.length ["_law_one", "_law_other", "_law_most", "_law_found", "_law_first", "_law_second", "_law_both_here"]) b_law_both)) := fn_ev (N := ["_law_one", "_law_other", "_law_most", "_law_found", "_law_first", "_law_second", "_law_both_here"]) (ps := ["_law_one", "_law_other", "_law_most"]) (k := 0) (g := b_law_both) F sc_law_both fun cdv A outer s H E hr => by
      have hu := room_un hr
      have hc : (cxOf CX0 P w K mg base ["_law_one", "_law_other", "_law_most", "_law_found", "_law_first", "_law_second", "_law_both_here"] "_law_both" (defScope s_law_both) f cdv A outer s H E).nox.calm = true := rfl
      have nd := sc_law_both.nd
      conv => arg 2; whnf
      exact (b_cons (s_set 3 nd e_dnew) (b_cons (s_forK PassesOwn.never hc (e_var 0) (g_name 4 nd) (b_one (s_forK PassesOwn.never hc (e_var 1) (g_name 5 nd) (b_cons (s_set 6 nd (e_tup (a_cons (e_bin (o_add false) (e_sub hu (e_var 4) e_int) (e_sub hu (e_var 5) e_int)) (a_cons (e_bin (o_add false) (e_sub hu (e_var 4) e_int) (e_sub hu (e_var 5) e_int)) a_nil)))) (b_one (s_if (t_cmp o_le (e_blt (f_max hc hu) z_max (a_cons (e_var 6) a_nil)) (e_var 2) opLe_bl) (b_one (s_put hu (e_var 3) (e_var 6) e_bl)) b_nil)))))) (b_one (s_ret (e_var 3)))))
  exact Df.refine (g := g_law_both) ⟨f, fd, ["_law_one", "_law_other", "_law_most"], hm, F.kp, bd, rfl, hF⟩ r_law_both
abbrev s_often : Stmt := topS 13
theorem sc_often : FnScope ["spread", "plain", "base", "steps", "found", "fan"] ["spread"] (defScope s_often) := ⟨rfl, rfl, rfl, by decide +kernel, rfl, by decide +kernel, by decide +kernel⟩
theorem d_often {f : Addr} {fd : FuncData} (F : Fun K "often" "often" s_often f fd) (bd : L2.Binds K fd ["spread"] []) (hm : mg "often" = some (.ref f)) (D_needed : Df P w K mg base "needed" 66 1 p_needed) (D_sums : Df P w K mg base "sums" 68 2 p_sums) (z_len : mg "len" = none) (z_tuple : mg "tuple" = none) : Df P w K mg base "often" 69 1 p_often := by
  have hF : FnOk P w K mg base CX0 (68 + 1) f fd ["spread"] (spD ⟨P, w, K⟩ (List.length ["spread"]) (runDef (List.length ["spread", "plain", "base", "steps", "found", "fan"]) b_often)) := fn_ev (N := ["spread", "plain", "base", "steps", "found", "fan"]) (ps := ["spread"]) (k := 68) (g := b_often) F sc_often fun cdv A outer s H E hr => by
      have hu := room_un hr
      have hc : (cxOf CX0 P w K mg base ["spread", "plain", "base", "steps", "found", "fan"] "often" (defScope s_often) f cdv A outer s H E).nox.calm = true := rfl
      have nd := sc_often.nd
      conv => arg 2; whnf
      exact (b_cons (s_set 1 nd (e_bty f_tuple z_tuple (a_cons (e_lc (own := [("base", 2), ("steps", 3)]) false hc nd (i_seq (e_var 0)) (blkOk_by (by kernel_rfl)) (by decide) (fun _ _ _ _ _ => (g_tup 2 hc (gs_cons (g_name 2 nd) (gs_cons (g_name 3 nd) gs_nil)))) (fun _ _ _ _ _ => (ts_one (t_cmp (o_eq hu) (e_blt f_len0 z_len (a_cons (e_var 3) a_nil)) e_int opEq_bl))) (fun _ _ _ _ _ => (e_var 2))) a_nil))) (b_cons (s_set 4 nd (e_tup (a_cons (e_tup (a_cons (e_tup (a_cons e_int (a_cons e_int a_nil))) (a_cons (e_call D_needed hr (a_cons (e_var 1) a_nil)) a_nil))) a_nil))) (b_cons (s_for PassesOwn.never hc (i_seq (e_lc (own := [("fan", 5)]) false hc nd (i_seq (e_var 0)) (blkOk_by (by kernel_rfl)) (by decide) (fun _ _ _ _ _ => (g_name 5 nd)) (fun _ _ _ _ _ => (ts_one (t_cmp o_gt (e_blt f_len0 z_len (a_cons (e_sub hu (e_var 5) e_int) a_nil)) e_int opGt_bl))) (fun _ _ _ _ _ => (e_var 5)))) (g_tup 2 hc (gs_cons (g_name 2 nd) (gs_cons (g_name 3 nd) gs_nil))) (b_one (s_set 4 nd (e_call D_sums hr (a_cons (e_var 4) (a_cons (e_tup (a_cons (e_tup (a_cons (e_tup (a_cons e_int (a_cons e_int a_nil))) (a_cons (e_tup a_nil) a_nil))) (a_cons (e_tup (a_cons (e_var 2) (a_cons (e_call D_needed hr (a_cons (e_bin (o_add false) (e_var 3) (e_tup (a_cons (e_var 2) a_nil))) a_nil)) a_nil))) a_nil))) a_nil)))))) (b_one (s_ret (e_var 4))))))
  exact Df.refine (g := g_often) ⟨f, fd, ["spread"], hm, F.kp, bd, rfl, hF⟩ r_often
abbrev s_law : Stmt := topS 24
theorem sc_law : FnScope ["_law_script", "_law_one", "_law_other", "_law_found", "_law_first", "_law_due", "_law_size"] ["_law_script"] (defScope s_law) := ⟨rfl, rfl, rfl, by decide +kernel, rfl, by decide +kernel, by decide +kernel⟩
theorem fn_law {f : Addr} {fd : FuncData} (F : Fun K "law" "law" s_law f fd) (D_law_mixed : Df P w K mg base "_law_mixed" 2 2 p_law_mixed) (D_law_spread : Df P w K mg base "_law_spread" 3 2 p_law_spread) (D_either : Df P w K mg base "either" 1 2 p_either) (D_sums : Df P w K mg base "sums" 68 2 p_sums) (D_law_is_told : Df P w K mg base "_law_is_told" 1 1 p_law_is_told) (D_law_few : Df P w K mg base "_law_few" 2 2 p_law_few) (D_few : Df P w K mg base "few" 3 2 p_few) (D_law_both : Df P w K mg base "_law_both" 1 3 p_law_both) (D_often : Df P w K mg base "often" 69 1 p_often) (z_len : mg "len" = none) (z_sorted : mg "sorted" = none) (z_tuple : mg "tuple" = none) : FnOk P w K mg base CX0 70 f fd ["_law_script"] (spD ⟨P, w, K⟩ 1 g_law) := by
  have hF : FnOk P w K mg base CX0 (69 + 1) f fd ["_law_script"] (spD ⟨P, w, K⟩ (List.length ["_law_script"]) (runDef (List.length ["_law_script", "_law_one", "_law_other", "_law_found", "_law_first", "_law_due", "_law_size"]) b_law)) := fn_ev (N := ["_law_script", "_law_one", "_law_other", "_law_found", "_law_first", "_law_due", "_law_size"]) (ps := ["_law_script"]) (k := 69) (g := b_law) F sc_law fun cdv A outer s H E hr => by
      have hu := room_un hr
      have hc : (cxOf CX0 P w K mg base ["_law_script", "_law_one", "_law_other", "_law_found", "_law_first", "_law_due", "_law_size"] "law" (defScope s_law) f cdv A outer s H E).nox.calm = true := rfl
      have nd := sc_law.nd
      conv => arg 2; whnf
      exact (b_cons (s_set 1 nd (e_call D_law_spread hr (a_cons (e_call D_law_mixed hr (a_cons (e_var 0) (a_cons e_int a_nil))) (a_cons e_int a_nil)))) (b_cons (s_set 2 nd (e_call D_law_spread hr (a_cons (e_call D_law_mixed hr (a_cons (e_var 0) (a_cons e_int a_nil))) (a_cons e_int a_nil)))) (b_cons (s_if (t_cmp (o_ne hu) (e_call D_either hr (a_cons (e_var 1) (a_cons (e_var 2) a_nil))) (e_bin (o_add false) (e_var 1) (e_var 2)) opEq_bl) (b_one (s_ret e_bl)) b_nil) (b_cons (s_set 3 nd (e_call D_sums hr (a_cons (e_var 1) (a_cons (e_var 2) a_nil)))) (b_cons (s_if (t_not (t_of (e_call D_law_is_told hr (a_cons (e_var 3) a_nil)))) (b_one (s_ret e_bl)) b_nil) (b_cons (s_set 4 nd (e_call D_law_few hr (a_cons (e_var 1) (a_cons e_int a_nil)))) (b_cons (s_if (t_cmp (o_ne hu) (e_call D_few hr (a_cons (e_var 3) (a_cons e_int a_nil))) (e_bty f_tuple z_tuple (a_cons (e_blt (f_sorted hc hu false) z_sorted (a_cons (e_call D_law_both hr (a_cons (e_var 4) (a_cons (e_call D_law_few hr (a_cons (e_var 2) (a_cons e_int a_nil))) (a_cons e_int a_nil)))) a_nil)) a_nil)) opEq_bl) (b_one (s_ret e_bl)) b_nil) (b_cons (s_set 3 nd (e_call D_often hr (a_cons (e_var 1) a_nil))) (b_cons (s_set 5 nd (e_dict1 hu (e_tup (a_cons e_int (a_cons e_int a_nil))) e_bl)) (b_cons (s_set 6 nd e_int) (b_cons (s_while PassesOwn.never (t_cmp (o_ne hu) (e_var 6) (e_blt f_lenA z_len (a_cons (e_var 5) a_nil)) opEq_bl) (b_cons (s_set 6 nd (e_blt f_lenA z_len (a_cons (e_var 5) a_nil))) (b_one (s_expr (e_dm PySem.F.plainAttrs_dict PySem.F.slot_dict_update PySem.F.type_dict_update (m_dupdate hu) (e_var 5) (a_cons (e_call D_law_both hr (a_cons (e_var 5) (a_cons (e_var 4) (a_cons e_int a_nil)))) a_nil)))))) (b_one (s_ret (e_and (e_call D_law_is_told hr (a_cons (e_var 3) a_nil)) (e_one (e_cmp (o_eq hu) (e_call D_few hr (a_cons (e_var 3) (a_cons e_int a_nil))) (e_bty f_tuple z_tuple (a_cons (e_blt (f_sorted hc hu false) z_sorted (a_cons (e_var 5) a_nil)) a_nil))))))))))))))))))
  exact hF
end
/-! ### the top, with tables -/
omit [Tb] in
theorem all_mkT {l : PySem.W.OpenLaw} {q : Program} {w : World} {K : PySem.W.Frag} {h : Heap} {mg : Str → Option Value} {fa f0 f1 f2 f3 f4 f5 f6 f7 f8 f9 f10 f11 f12 f13 f14 f15 f16 f17 f18 f19 f20 : Addr} (X : K.In h) (G : h.Ns mainGlobals mg) (hfa : mg "law" = some (.ref fa))
    {od0 an0 od1 an1 od2 an2 od3 an3 od4 an4 od5 an5 od6 an6 od7 an7 od8 an8 od9 an9 od10 an10 od11 an11 od12 an12 od13 an13 od14 an14 od15 an15 od16 an16 od17 an17 od18 an18 od19 an19 od20 an20 : Option Addr} {sl0 sl1 sl2 sl3 sl4 sl5 sl6 sl7 sl8 sl9 sl10 sl11 sl12 sl13 sl14 sl15 sl16 sl17 sl18 sl19 sl20 : Array (Option Value)} {oc0 kV0 dc0 pm0 cd0 ct0 oc1 kV1 dc1 pm1 cd1 ct1 oc2 kV2 dc2 pm2 cd2 ct2 oc3 kV3 dc3 pm3 cd3 ct3 oc4 kV4 dc4 pm4 cd4 ct4 oc5 kV5 dc5 pm5 cd5 ct5 oc6 kV6 dc6 pm6 cd6 ct6 oc7 kV7 dc7 pm7 cd7 ct7 oc8 kV8 dc8 pm8 ct8 oc9 kV9 dc9 pm9 cd9 ct9 oc10 kV10 dc10 pm10 cd10 ct10 oc11 kV11 dc11 pm11 cd11 ct11 oc12 kV12 dc12 pm12 cd12 ct12 oc13 kV13 dc13 pm13 cd13 ct13 oc14 kV14 dc14 pm14 cd14 ct14 oc15 kV15 dc15 pm15 cd15 ct15 oc16 kV16 dc16 pm16 cd16 ct16 oc17 kV17 dc17 pm17 cd17 ct17 oc18 kV18 dc18 pm18 cd18 ct18 oc19 kV19 dc19 pm19 cd19 ct19 oc20 kV20 dc20 pm20 cd20 ct20 : Value}
    {tc8 tp8 : Addr} {te8 : Value} {td8 : Option Addr} {tv8 : Array Value} {ts8 : Array (Option Value)}
    (own : ∀ (y : Str) (f : Addr), ((recsOf q).any fun e => e.name == y) = true → mg y = some (.ref f) → LamX.OwnTab K f h) (hlaw : ∀ [Tb] (ns : List Int), ns.length ≤ 63 → ∃ S', g_law [.scr ns] [] = some (.bl true, S'))
    (a0 : PySem.W.nsIn K mainGlobals "_law_cell_at" = some (some (.ref f0))) (l0 : K.lookup f0 = some ⟨oc0, od0, .func (PySem.W.fnOf "_law_cell_at" "_law_cell_at" (defArgs s_law_cell_at) (defBody s_law_cell_at) (defScope s_law_cell_at) .none kV0 dc0 pm0 an0 cd0 ct0), sl0⟩) (c0 : PySem.W.codeIn K cd0 "_law_cell_at" = true) (k0 : PySem.W.keepIn K (.ref f0) = true)
    (a1 : PySem.W.nsIn K mainGlobals "_law_mixed" = some (some (.ref f1))) (l1 : K.lookup f1 = some ⟨oc1, od1, .func (PySem.W.fnOf "_law_mixed" "_law_mixed" (defArgs s_law_mixed) (defBody s_law_mixed) (defScope s_law_mixed) .none kV1 dc1 pm1 an1 cd1 ct1), sl1⟩) (c1 : PySem.W.codeIn K cd1 "_law_mixed" = true) (k1 : PySem.W.keepIn K (.ref f1) = true)
    (a2 : PySem.W.nsIn K mainGlobals "_law_drawn" = some (some (.ref f2))) (l2 : K.lookup f2 = some ⟨oc2, od2, .func (PySem.W.fnOf "_law_drawn" "_law_drawn" (defArgs s_law_drawn) (defBody s_law_drawn) (defScope s_law_drawn) .none kV2 dc2 pm2 an2 cd2 ct2), sl2⟩) (c2 : PySem.W.codeIn K cd2 "_law_drawn" = true) (k2 : PySem.W.keepIn K (.ref f2) = true)
    (a3 : PySem.W.nsIn K mainGlobals "_law_fan" = some (some (.ref f3))) (l3 : K.lookup f3 = some ⟨oc3, od3, .func (PySem.W.fnOf "_law_fan" "_law_fan" (defArgs s_law_fan) (defBody s_law_fan) (defScope s_law_fan) .none kV3 dc3 pm3 an3 cd3 ct3), sl3⟩) (c3 : PySem.W.codeIn K cd3 "_law_fan" = true) (k3 : PySem.W.keepIn K (.ref f3) = true)
    (a4 : PySem.W.nsIn K mainGlobals "_law_spread" = some (some (.ref f4))) (l4 : K.lookup f4 = some ⟨oc4, od4, .func (PySem.W.fnOf "_law_spread" "_law_spread" (defArgs s_law_spread) (defBody s_law_spread) (defScope s_law_spread) .none kV4 dc4 pm4 an4 cd4 ct4), sl4⟩) (c4 : PySem.W.codeIn K cd4 "_law_spread" = true) (k4 : PySem.W.keepIn K (.ref f4) = true)
    (a5 : PySem.W.nsIn K mainGlobals "either" = some (some (.ref f5))) (l5 : K.lookup f5 = some ⟨oc5, od5, .func (PySem.W.fnOf "either" "either" (defArgs s_either) (defBody s_either) (defScope s_either) .none kV5 dc5 pm5 an5 cd5 ct5), sl5⟩) (c5 : PySem.W.codeIn K cd5 "either" = true) (k5 : PySem.W.keepIn K (.ref f5) = true)
    (a6 : PySem.W.nsIn K mainGlobals "times_for" = some (some (.ref f6))) (l6 : K.lookup f6 = some ⟨oc6, od6, .func (PySem.W.fnOf "times_for" "times_for" (defArgs s_times_for) (defBody s_times_for) (defScope s_times_for) .none kV6 dc6 pm6 an6 cd6 ct6), sl6⟩) (c6 : PySem.W.codeIn K cd6 "times_for" = true) (k6 : PySem.W.keepIn K (.ref f6) = true)
    (a7 : PySem.W.nsIn K mainGlobals "how_in" = some (some (.ref f7))) (l7 : K.lookup f7 = some ⟨oc7, od7, .func (PySem.W.fnOf "how_in" "how_in" (defArgs s_how_in) (defBody s_how_in) (defScope s_how_in) .none kV7 dc7 pm7 an7 cd7 ct7), sl7⟩) (c7 : PySem.W.codeIn K cd7 "how_in" = true) (k7 : PySem.W.keepIn K (.ref f7) = true)
    (a8 : PySem.W.nsIn K mainGlobals "needed" = some (some (.ref f8))) (l8 : K.lookup f8 = some ⟨oc8, od8, .func (PySem.W.fnOf "needed" "needed" (defArgs s_needed) (defBody s_needed) (defScope s_needed) .none kV8 dc8 pm8 an8 (.ref tc8) ct8), sl8⟩) (c8 : PySem.W.codeIn K (.ref tc8) "needed" = true) (k8 : PySem.W.keepIn K (.ref f8) = true)
    (a9 : PySem.W.nsIn K mainGlobals "added" = some (some (.ref f9))) (l9 : K.lookup f9 = some ⟨oc9, od9, .func (PySem.W.fnOf "added" "added" (defArgs s_added) (defBody s_added) (defScope s_added) .none kV9 dc9 pm9 an9 cd9 ct9), sl9⟩) (c9 : PySem.W.codeIn K cd9 "added" = true) (k9 : PySem.W.keepIn K (.ref f9) = true)
    (a10 : PySem.W.nsIn K mainGlobals "lies_in" = some (some (.ref f10))) (l10 : K.lookup f10 = some ⟨oc10, od10, .func (PySem.W.fnOf "lies_in" "lies_in" (defArgs s_lies_in) (defBody s_lies_in) (defScope s_lies_in) .none kV10 dc10 pm10 an10 cd10 ct10), sl10⟩) (c10 : PySem.W.codeIn K cd10 "lies_in" = true) (k10 : PySem.W.keepIn K (.ref f10) = true)
    (a11 : PySem.W.nsIn K mainGlobals "trimmed" = some (some (.ref f11))) (l11 : K.lookup f11 = some ⟨oc11, od11, .func (PySem.W.fnOf "trimmed" "trimmed" (defArgs s_trimmed) (defBody s_trimmed) (defScope s_trimmed) .none kV11 dc11 pm11 an11 cd11 ct11), sl11⟩) (c11 : PySem.W.codeIn K cd11 "trimmed" = true) (k11 : PySem.W.keepIn K (.ref f11) = true)
    (a12 : PySem.W.nsIn K mainGlobals "sums" = some (some (.ref f12))) (l12 : K.lookup f12 = some ⟨oc12, od12, .func (PySem.W.fnOf "sums" "sums" (defArgs s_sums) (defBody s_sums) (defScope s_sums) .none kV12 dc12 pm12 an12 cd12 ct12), sl12⟩) (c12 : PySem.W.codeIn K cd12 "sums" = true) (k12 : PySem.W.keepIn K (.ref f12) = true)
    (a13 : PySem.W.nsIn K mainGlobals "_law_is_told" = some (some (.ref f13))) (l13 : K.lookup f13 = some ⟨oc13, od13, .func (PySem.W.fnOf "_law_is_told" "_law_is_told" (defArgs s_law_is_told) (defBody s_law_is_told) (defScope s_law_is_told) .none kV13 dc13 pm13 an13 cd13 ct13), sl13⟩) (c13 : PySem.W.codeIn K cd13 "_law_is_told" = true) (k13 : PySem.W.keepIn K (.ref f13) = true)
    (a14 : PySem.W.nsIn K mainGlobals "_law_had" = some (some (.ref f14))) (l14 : K.lookup f14 = some ⟨oc14, od14, .func (PySem.W.fnOf "_law_had" "_law_had" (defArgs s_law_had) (defBody s_law_had) (defScope s_law_had) .none kV14 dc14 pm14 an14 cd14 ct14), sl14⟩) (c14 : PySem.W.codeIn K cd14 "_law_had" = true) (k14 : PySem.W.keepIn K (.ref f14) = true)
    (a15 : PySem.W.nsIn K mainGlobals "_law_few" = some (some (.ref f15))) (l15 : K.lookup f15 = some ⟨oc15, od15, .func (PySem.W.fnOf "_law_few" "_law_few" (defArgs s_law_few) (defBody s_law_few) (defScope s_law_few) .none kV15 dc15 pm15 an15 cd15 ct15), sl15⟩) (c15 : PySem.W.codeIn K cd15 "_law_few" = true) (k15 : PySem.W.keepIn K (.ref f15) = true)
    (a16 : PySem.W.nsIn K mainGlobals "few_in" = some (some (.ref f16))) (l16 : K.lookup f16 = some ⟨oc16, od16, .func (PySem.W.fnOf "few_in" "few_in" (defArgs s_few_in) (defBody s_few_in) (defScope s_few_in) .none kV16 dc16 pm16 an16 cd16 ct16), sl16⟩) (c16 : PySem.W.codeIn K cd16 "few_in" = true) (k16 : PySem.W.keepIn K (.ref f16) = true)
    (a17 : PySem.W.nsIn K mainGlobals "few" = some (some (.ref f17))) (l17 : K.lookup f17 = some ⟨oc17, od17, .func (PySem.W.fnOf "few" "few" (defArgs s_few) (defBody s_few) (defScope s_few) .none kV17 dc17 pm17 an17 cd17 ct17), sl17⟩) (c17 : PySem.W.codeIn K cd17 "few" = true) (k17 : PySem.W.keepIn K (.ref f17) = true)
    (a18 : PySem.W.nsIn K mainGlobals "_law_both" = some (some (.ref f18))) (l18 : K.lookup f18 = some ⟨oc18, od18, .func (PySem.W.fnOf "_law_both" "_law_both" (defArgs s_law_both) (defBody s_law_both) (defScope s_law_both) .none kV18 dc18 pm18 an18 cd18 ct18), sl18⟩) (c18 : PySem.W.codeIn K cd18 "_law_both" = true) (k18 : PySem.W.keepIn K (.ref f18) = true)
    (a19 : PySem.W.nsIn K mainGlobals "often" = some (some (.ref f19))) (l19 : K.lookup f19 = some ⟨oc19, od19, .func (PySem.W.fnOf "often" "often" (defArgs s_often) (defBody s_often) (defScope s_often) .none kV19 dc19 pm19 an19 cd19 ct19), sl19⟩) (c19 : PySem.W.codeIn K cd19 "often" = true) (k19 : PySem.W.keepIn K (.ref f19) = true)
    (a20 : PySem.W.nsIn K mainGlobals "law" = some (some (.ref f20))) (l20 : K.lookup f20 = some ⟨oc20, od20, .func (PySem.W.fnOf "law" "law" (defArgs s_law) (defBody s_law) (defScope s_law) .none kV20 dc20 pm20 an20 cd20 ct20), sl20⟩) (c20 : PySem.W.codeIn K cd20 "law" = true) (k20 : PySem.W.keepIn K (.ref f20) = true)
    (r8 : ((recsOf q).any fun e => e.name == ("needed" : Str)) = true) (g8 : K.lookup tc8 = some ⟨te8, td8, .fields tv8, ts8⟩) (q8 : tv8[11]? = some (.ref tp8)) (h8 : headB te8 tv8 tc8 tp8 = true) (n8 : K.lookup tp8 = none)
    (z_all : PySem.W.nsIn K mainGlobals "all" = some none) (z_any : PySem.W.nsIn K mainGlobals "any" = some none) (z_bool : PySem.W.nsIn K mainGlobals "bool" = some none) (z_int : PySem.W.nsIn K mainGlobals "int" = some none) (z_isinstance : PySem.W.nsIn K mainGlobals "isinstance" = some none) (z_len : PySem.W.nsIn K mainGlobals "len" = some none) (z_list : PySem.W.nsIn K mainGlobals "list" = some none) (z_max : PySem.W.nsIn K mainGlobals "max" = some none) (z_min : PySem.W.nsIn K mainGlobals "min" = some none) (z_range : PySem.W.nsIn K mainGlobals "range" = some none) (z_sorted : PySem.W.nsIn K mainGlobals "sorted" = some none) (z_tuple : PySem.W.nsIn K mainGlobals "tuple" = some none) :
    LamX.LawAtS l w K CX0 70 63 "_law_script" mg fa h := by
  letI tbs : Tb := ⟨[(tp8, ((("needed" : Str) ++ (".<locals>." : Str)) ++ ("<lambda>" : Str)))]⟩
  have e := hfa.symm.trans (PySem.W.mg_of X G a20)
  cases e
  have y_all := PySem.W.mg_none_of X G z_all
  have y_any := PySem.W.mg_none_of X G z_any
  have y_bool := PySem.W.mg_none_of X G z_bool
  have y_int := PySem.W.mg_none_of X G z_int
  have y_isinstance := PySem.W.mg_none_of X G z_isinstance
  have y_len := PySem.W.mg_none_of X G z_len
  have y_list := PySem.W.mg_none_of X G z_list
  have y_max := PySem.W.mg_none_of X G z_max
  have y_min := PySem.W.mg_none_of X G z_min
  have y_range := PySem.W.mg_none_of X G z_range
  have y_sorted := PySem.W.mg_none_of X G z_sorted
  have y_tuple := PySem.W.mg_none_of X G z_tuple
  have F0 := fun_mk (st := s_law_cell_at) l0 c0 k0
  have b0 := F0.binds (ps := ["_law_script", "_law_k"]) fun _ _ _ _ _ _ us hl => match us, hl with | [_, _], _ => rfl
  have F1 := fun_mk (st := s_law_mixed) l1 c1 k1
  have b1 := F1.binds (ps := ["_law_script", "_law_k"]) fun _ _ _ _ _ _ us hl => match us, hl with | [_, _], _ => rfl
  have F2 := fun_mk (st := s_law_drawn) l2 c2 k2
  have b2 := F2.binds (ps := ["_law_number", "_law_k"]) fun _ _ _ _ _ _ us hl => match us, hl with | [_, _], _ => rfl
  have F3 := fun_mk (st := s_law_fan) l3 c3 k3
  have b3 := F3.binds (ps := ["_law_number", "_law_most"]) fun _ _ _ _ _ _ us hl => match us, hl with | [_, _], _ => rfl
  have F4 := fun_mk (st := s_law_spread) l4 c4 k4
  have b4 := F4.binds (ps := ["_law_number", "_law_most"]) fun _ _ _ _ _ _ us hl => match us, hl with | [_, _], _ => rfl
  have F5 := fun_mk (st := s_either) l5 c5 k5
  have b5 := F5.binds (ps := ["one", "other"]) fun _ _ _ _ _ _ us hl => match us, hl with | [_, _], _ => rfl
  have F6 := fun_mk (st := s_times_for) l6 c6 k6
  have b6 := F6.binds (ps := ["steps", "left", "known"]) fun _ _ _ _ _ _ us hl => match us, hl with | [_, _, _], _ => rfl
  have F7 := fun_mk (st := s_how_in) l7 c7 k7
  have b7 := F7.binds (ps := ["fan", "count"]) fun _ _ _ _ _ _ us hl => match us, hl with | [_, _], _ => rfl
  have F8 := fun_mk (st := s_needed) l8 c8 k8
  have b8 := F8.binds (ps := ["steps"]) fun _ _ _ _ _ _ us hl => match us, hl with | [_], _ => rfl
  have F9 := fun_mk (st := s_added) l9 c9 k9
  have b9 := F9.binds (ps := ["one", "other"]) fun _ _ _ _ _ _ us hl => match us, hl with | [_, _], _ => rfl
  have F10 := fun_mk (st := s_lies_in) l10 c10 k10
  have b10 := F10.binds (ps := ["fan", "other"]) fun _ _ _ _ _ _ us hl => match us, hl with | [_, _], _ => rfl
  have F11 := fun_mk (st := s_trimmed) l11 c11 k11
  have b11 := F11.binds (ps := ["fans"]) fun _ _ _ _ _ _ us hl => match us, hl with | [_], _ => rfl
  have F12 := fun_mk (st := s_sums) l12 c12 k12
  have b12 := F12.binds (ps := ["one", "other"]) fun _ _ _ _ _ _ us hl => match us, hl with | [_, _], _ => rfl
  have F13 := fun_mk (st := s_law_is_told) l13 c13 k13
  have b13 := F13.binds (ps := ["_law_spread_here"]) fun _ _ _ _ _ _ us hl => match us, hl with | [_], _ => rfl
  have F14 := fun_mk (st := s_law_had) l14 c14 k14
  have b14 := F14.binds (ps := ["_law_fan_here", "_law_most"]) fun _ _ _ _ _ _ us hl => match us, hl with | [_, _], _ => rfl
  have F15 := fun_mk (st := s_law_few) l15 c15 k15
  have b15 := F15.binds (ps := ["_law_spread_here", "_law_most"]) fun _ _ _ _ _ _ us hl => match us, hl with | [_, _], _ => rfl
  have F16 := fun_mk (st := s_few_in) l16 c16 k16
  have b16 := F16.binds (ps := ["fan", "most"]) fun _ _ _ _ _ _ us hl => match us, hl with | [_, _], _ => rfl
  have F17 := fun_mk (st := s_few) l17 c17 k17
  have b17 := F17.binds (ps := ["spread", "most"]) fun _ _ _ _ _ _ us hl => match us, hl with | [_, _], _ => rfl
  have F18 := fun_mk (st := s_law_both) l18 c18 k18
  have b18 := F18.binds (ps := ["_law_one", "_law_other", "_law_most"]) fun _ _ _ _ _ _ us hl => match us, hl with | [_, _, _], _ => rfl
  have F19 := fun_mk (st := s_often) l19 c19 k19
  have b19 := F19.binds (ps := ["spread"]) fun _ _ _ _ _ _ us hl => match us, hl with | [_], _ => rfl
  have F20 := fun_mk (st := s_law) l20 c20 k20
  have b20 := F20.binds (ps := ["_law_script"]) fun _ _ _ _ _ _ us hl => match us, hl with | [_], _ => rfl
  refine ⟨PySem.W.fnOf "law" "law" (defArgs s_law) (defBody s_law) (defScope s_law) .none kV20 dc20 pm20 an20 cd20 ct20, [(tc8, tp8)], spD ⟨l.prog, w, K⟩ 1 g_law, ?_, ?_, ?_, fun s v => .of_eq rfl, fun H a ns hl _ hH hS => law_startT ?_ hS (hlaw ns hl), fun base Kb _ hTB => ?_⟩
  · exact List.forall_mem_cons.mpr ⟨own "needed" f8 r8 (PySem.W.mg_of X G a8) tc8 tp8 _ _ _ _ _ _ l8 rfl rfl g8 q8, fun _ z => by cases z⟩
  · exact List.forall_mem_cons.mpr ⟨n8, fun _ z => by cases z⟩
  · exact List.forall_mem_cons.mpr ⟨PySem.W.codeHd_of_K X (head_of g8 h8), fun _ z => by cases z⟩
  · exact List.forall_mem_cons.mpr ⟨LamX.TabS.nil (hH (tc8, tp8) (.head _)), fun _ z => by cases z⟩
  have D_law_cell_at := d_law_cell_at (P := l.prog) (w := w) (base := base) F0 b0 (PySem.W.mg_of X G a0) y_len
  have D_law_mixed := d_law_mixed (P := l.prog) (w := w) (base := base) F1 b1 (PySem.W.mg_of X G a1) D_law_cell_at
  have D_law_drawn := d_law_drawn (P := l.prog) (w := w) (base := base) F2 b2 (PySem.W.mg_of X G a2)
  have D_law_fan := d_law_fan (P := l.prog) (w := w) (base := base) F3 b3 (PySem.W.mg_of X G a3) D_law_drawn y_range y_sorted y_tuple
  have D_law_spread := d_law_spread (P := l.prog) (w := w) (base := base) F4 b4 (PySem.W.mg_of X G a4) D_law_drawn D_law_fan y_range y_tuple
  have D_either := d_either (P := l.prog) (w := w) (base := base) F5 b5 (PySem.W.mg_of X G a5)
  have D_times_for := d_times_for (P := l.prog) (w := w) (base := base) F6 b6 (PySem.W.mg_of X G a6) y_len
  have D_how_in := d_how_in (P := l.prog) (w := w) (base := base) F7 b7 (PySem.W.mg_of X G a7) D_times_for
  have D_needed := d_needed (P := l.prog) (w := w) (base := base) F8 b8 (PySem.W.mg_of X G a8) D_how_in y_list y_sorted y_tuple (hTB (tc8, tp8) (.head _)) rfl (.head _) (List.forall_mem_cons.mpr ⟨fun _ => rfl, fun _ z => by cases z⟩)
  have D_added := d_added (P := l.prog) (w := w) (base := base) F9 b9 (PySem.W.mg_of X G a9)
  have D_lies_in := d_lies_in (P := l.prog) (w := w) (base := base) F10 b10 (PySem.W.mg_of X G a10) D_how_in y_all
  have D_trimmed := d_trimmed (P := l.prog) (w := w) (base := base) F11 b11 (PySem.W.mg_of X G a11) D_lies_in y_any y_sorted y_tuple
  have D_sums := d_sums (P := l.prog) (w := w) (base := base) F12 b12 (PySem.W.mg_of X G a12) D_needed D_added D_trimmed
  have D_law_is_told := d_law_is_told (P := l.prog) (w := w) (base := base) F13 b13 (PySem.W.mg_of X G a13) y_bool y_int y_isinstance y_len y_min y_tuple
  have D_law_had := d_law_had (P := l.prog) (w := w) (base := base) F14 b14 (PySem.W.mg_of X G a14) y_max
  have D_law_few := d_law_few (P := l.prog) (w := w) (base := base) F15 b15 (PySem.W.mg_of X G a15) D_law_had
  have D_few_in := d_few_in (P := l.prog) (w := w) (base := base) F16 b16 (PySem.W.mg_of X G a16) D_added y_len y_max
  have D_few := d_few (P := l.prog) (w := w) (base := base) F17 b17 (PySem.W.mg_of X G a17) D_few_in y_sorted y_tuple
  have D_law_both := d_law_both (P := l.prog) (w := w) (base := base) F18 b18 (PySem.W.mg_of X G a18) y_max
  have D_often := d_often (P := l.prog) (w := w) (base := base) F19 b19 (PySem.W.mg_of X G a19) D_needed D_sums y_len y_tuple
  exact fn_law (P := l.prog) (w := w) (base := base) F20 D_law_mixed D_law_spread D_either D_sums D_law_is_told D_law_few D_few D_law_both D_often y_len y_sorted y_tuple
end Pk20
end Ev
end L2

namespace L2
namespace Ev
namespace Pk20
open PyProof.Rows PySem.Spec PySem L2
variable [Tb]
theorem grid20 {x : P2} (h : x ∈ gridL 9) : x ∈ gridL 20 := by
  have := mem_gridL.mp h
  exact mem_gridL.mpr ⟨this.1, by omega⟩
theorem upd_at {T : Store} {q n : Nat} {d b : List P2} (hqn : q ≠ n) (hq : T[q]? = some (.dct (stD d))) (hn : T[n]? = some (.dct (stD b))) (hl : d.length + b.length ≤ 16777216) (hb : b.Nodup) (hg : ∀ p ∈ b, p ∈ gridL 20) :
    dmUpdate (.ref q) [.ref n] T = some (.non, T.set q (.dct (stD (b.foldl ins d)))) := by
  have hu : updOk (stD d) (stD b) := updOk_P hl hb hg
  have hi : (insP : List P2 → P2 → List P2) = ins := by
    funext ks p
    unfold insP ins
    by_cases h : p ∈ ks <;> simp [h]
  have hm : dMerge (stD d) (stD b) = stD (b.foldl ins d) := by rw [← hi]; exact dMerge_P b d
  unfold dmUpdate
  simp only [hq, hn]
  rw [if_pos ⟨hqn, hu⟩, hm]
theorem due_loop {A : P2 → Prop} {F : List P2} (hF : ∀ y ∈ F, nn y ∧ A y) (hFl : F.length ≤ 1000) {x0 x1 x2 x3 : Option D} {q : Nat} (hq0 : q ≠ 0) {n : Int} {d r : List P2} (H : DueR F n d r) :
    ∀ T : Store, T[0]? = some (.dct (stD F)) → T[q]? = some (.dct (stD d)) → OkDue A d → ∃ x6 T', sWhile (tOf (eBin (opEq true) (eV 6) (eFn fLenA (aCons (eV 5) aNil)))) l1_law [x0, x1, x2, x3, some (.ref 0), some (.ref q), some (.int n)] T = some (.nx [x0, x1, x2, x3, some (.ref 0), some (.ref q), x6] T') ∧ T'[q]? = some (.dct (stD r)) := by
  have test : ∀ {n : Int} {d : List P2} {T : Store}, T[q]? = some (.dct (stD d)) → (tOf (eBin (opEq true) (eV 6) (eFn fLenA (aCons (eV 5) aNil)))) [x0, x1, x2, x3, some (.ref 0), some (.ref q), some (.int n)] T = some (decide (n ≠ d.length), T) := fun {n d T} h => by
    have hl := fLenA_dct h
    have e : (stD d).length = d.length := by unfold stD; rw [List.length_map]
    rw [e] at hl
    have hq : opEq true (.int n) (.int (d.length : Nat)) T = some (.bl (decide (n ≠ d.length)), T) := by rw [opEq_noB rfl rfl (by simp [D.dep])]; simp
    simp [hl, hq]
  induction H with
  | @stop n d h =>
    intro T h0 hq hd
    refine ⟨some (.int n), T, ?_, hq⟩
    rw [sWhile_eq (test hq), if_neg (by simp [h])]
  | @go n d r h k ih =>
    intro T h0 hq hd
    have hlen := hd.len
    have hb := law_both_r (m := 9) (S := T) (i := q) (j := 0) (a := d) (b := F) ⟨hq0, hq, h0, Nat.le_trans (Nat.mul_le_mul hlen hFl) (by decide)⟩
    have hqlt : q < T.length := (List.getElem?_eq_some_iff.mp hq).1
    have h0lt : 0 < T.length := (List.getElem?_eq_some_iff.mp h0).1
    have hq' : (T ++ [Cell.dct (stD (lawSums d F 9))])[q]? = some (.dct (stD d)) := by rw [List.getElem?_append_left hqlt]; exact hq
    have h0' : (T ++ [Cell.dct (stD (lawSums d F 9))])[0]? = some (.dct (stD F)) := by rw [List.getElem?_append_left h0lt]; exact h0
    have hat : (T ++ [Cell.dct (stD (lawSums d F 9))])[T.length]? = some (.dct (stD (lawSums d F 9))) := at_len
    have hbl := lawSums_len d F 9
    have hmul : d.length * F.length ≤ 100000 := Nat.le_trans (Nat.mul_le_mul hlen hFl) (by decide)
    have hu := upd_at (T := T ++ [Cell.dct (stD (lawSums d F 9))]) (q := q) (n := T.length) (by omega) hq' hat (by omega) (foldl_ins_nodup _ List.nodup_nil) (fun p hp => by
      obtain ⟨⟨a, ha, b, hb, rfl⟩, hm⟩ := mem_lawSums.mp hp
      exact grid20 (mem_gridL.mpr ⟨nn_add (mem_gridL.mp (hd.grid a ha)).1 (hF b hb).1, hm⟩))
    have hnx : (lawSums d F 9).foldl ins d = nextD F d := rfl
    rw [hnx] at hu
    obtain ⟨x6, T', e1, e2⟩ := ih ((T ++ [Cell.dct (stD (lawSums d F 9))]).set q (.dct (stD (nextD F d)))) (by rw [List.getElem?_set_ne hq0]; exact h0') (set_get hq') (hd.next hF)
    refine ⟨x6, T', ?_, e2⟩
    have hl := fLenA_dct hq
    have e : (stD d).length = d.length := by unfold stD; rw [List.length_map]
    rw [e] at hl
    have htyp : typD (T ++ [Cell.dct (stD (lawSums d F 9))]) (.ref q) = "dict" := by simp only [typD, hq']
    have htyp0 : typD T (.ref q) = "dict" := by simp only [typD, hq]
    rw [sWhile_eq (test hq), if_pos (by simp [h])]
    have body : l1_law [x0, x1, x2, x3, some (.ref 0), some (.ref q), some (.int n)] T = some (.nx [x0, x1, x2, x3, some (.ref 0), some (.ref q), some (.int (d.length : Nat))] ((T ++ [Cell.dct (stD (lawSums d F 9))]).set q (.dct (stD (nextD F d))))) := by
      have hdct : dctOf T (.ref q) = some (stD d) := by simp only [dctOf, hq]
      unfold l1_law
      generalize T ++ [Cell.dct (stD (lawSums d F 9))] = T1 at *
      simp [hl, hb, hu, htyp, htyp0, hdct]
    rw [body]
    simp only [Option.bind_some, again_nx]
    exact e1
theorem fewL_nodup {sp : List Fan} {m : Int} : (fewL (sp, m)).Nodup := by
  have gen : ∀ (l : List Fan) (ks : List P2), ks.Nodup → (l.foldl (fun ks f => (hadR (f, m)).foldl insP ks) ks).Nodup := by
    intro l
    induction l with
    | nil => exact fun _ h => h
    | cons f l ih =>
      intro ks h
      refine ih _ ?_
      have hi : (insP : List P2 → P2 → List P2) = ins := by
        funext ks p
        unfold insP ins
        by_cases h : p ∈ ks <;> simp [h]
      rw [hi]
      exact foldl_ins_nodup _ h
  exact gen sp [] List.nodup_nil
theorem gn_nn {st : List P2} (h : goodSt st) {x : P2} (hx : Gn st x) : nn x := by
  induction hx with
  | base => exact ⟨by decide, by decide⟩
  | step _ hs ih => exact nn_add ih ⟨(h _ hs).1, (h _ hs).2.1⟩
theorem has_nn {sp : List Fan} (h : ∀ g ∈ sp, pbox 5 g.1 ∧ boxS 4 g.2 ∧ goodSt g.2 ∧ g.2.length ≤ 4) {c : P2} (hc : has sp c) : nn c := by
  obtain ⟨g, hg, hc⟩ := hc
  obtain ⟨x, hx, rfl⟩ := fan_iff.mp hc
  obtain ⟨h1, _, h3, _⟩ := h g hg
  exact nn_add ⟨h1.1.1, h1.2.1⟩ (gn_nn h3 hx)
theorem mem_few {sp : List Fan} (h : okFewS (sp, 9)) {p : P2} : p ∈ fewL (sp, 9) ↔ maxP p ≤ 9 ∧ has sp p := mem_fewL h.1
theorem eq_sums {A B : List Fan} (okA : okFewS (A, 9)) (okB : okFewS (B, 9)) (okS : okFewS (sumSp A B, 9)) (hA : ∀ c, has A c → nn c) (hB : ∀ c, has B c → nn c) : fewR (sumSp A B, 9) = sortP (lawSums (fewL (A, 9)) (fewL (B, 9)) 9) := by
  refine sortP_ext fewL_nodup (foldl_ins_nodup _ List.nodup_nil) fun x => ?_
  rw [mem_few okS, sumSp_has, mem_lawSums]
  constructor
  · rintro ⟨hm, y, z, hy, hz, rfl⟩
    exact ⟨⟨y, (mem_few okA).mpr ⟨Int.le_trans (maxP_l (hB z hz)) hm, hy⟩, z, (mem_few okB).mpr ⟨Int.le_trans (maxP_r (hA y hy)) hm, hz⟩, rfl⟩, hm⟩
  · rintro ⟨⟨y, hy, z, hz, rfl⟩, hm⟩
    exact ⟨hm, y, z, ((mem_few okA).mp hy).2, ((mem_few okB).mp hz).2, rfl⟩
theorem eq_often {A : List Fan} (okA : okFewS (A, 9)) (okO : okFewS (oftenL A, 9)) (hA : ∀ c, has A c → nn c) {r : List P2} (H : DueR (fewL (A, 9)) 0 [(0, 0)] r) : fewR (oftenL A, 9) = sortP r := by
  obtain ⟨h1, h2⟩ := due_all (A := has A) hA (fun y => mem_few okA) H
  refine sortP_ext fewL_nodup h1 fun x => ?_
  rw [mem_few okO, oftenL_has, h2]
theorem law_true (ns : List Int) (h : ns.length ≤ 63) : ∃ S', g_law [.scr ns] [] = some (.bl true, S') := by
  have m0 := mixed_r (ns := ns) (k := 0) (by decide) []
  have m1 := mixed_r (ns := ns) (k := 1) (by decide) []
  generalize mixV (ns.getD (0 : Int).toNat 0) 0 = a at m0
  generalize mixV (ns.getD (1 : Int).toNat 0) 1 = b at m1
  have s0 := spread_r (n := a) (m := 5) (by decide) []
  have s1 := spread_r (n := b) (m := 5) (by decide) []
  have hso := okSm_spreadV a b
  have hof := okOft_spreadV a
  have hla := spreadV_len a 5
  have hlb := spreadV_len b 5
  have hba : ∀ f ∈ spreadV a 5, _ := fun f hf => spreadV_b hf
  have hbb : ∀ f ∈ spreadV b 5, _ := fun f hf => spreadV_b hf
  obtain ⟨hs16, hsb⟩ := sumSp_b (n := a) (k := b)
  obtain ⟨ho16, hob⟩ := oftenL_I hof
  have hog := oftenL_good hof
  have okA : okFewS (spreadV a 5, 9) := okFewS_spreadV (by decide) (by decide)
  have okB : okFewS (spreadV b 5, 9) := okFewS_spreadV (by decide) (by decide)
  generalize spreadV a 5 = A at *
  generalize spreadV b 5 = B at *
  have okS : okFewS (sumSp A B, 9) := okFewS_b (by decide) (by omega) fun g hg => by
    obtain ⟨x, y, z, w⟩ := hsb g hg
    exact ⟨⟨x.1.1, x.2.1⟩, z, by omega⟩
  have okO : okFewS (oftenL A, 9) := okFewS_b (by decide) (by omega) fun g hg => by
    obtain ⟨x, y, z⟩ := hob g hg
    exact ⟨⟨x.1.1, x.2.1⟩, hog g hg, z⟩
  have hei := either_r (one := A) (other := B) (by omega) []
  have hsr := sums_r hso []
  have toS : okTold (sumSp A B) := fun g hg => by
    obtain ⟨x, y, z, w⟩ := hsb g hg
    exact ⟨⟨x.1.1, x.2.1⟩, z, by omega⟩
  have toO : okTold (oftenL A) := fun g hg => by
    obtain ⟨x, y, z⟩ := hob g hg
    exact ⟨⟨x.1.1, x.2.1⟩, hog g hg, by omega⟩
  have htS := law_is_told_r toS []
  have nA : ∀ c, has A c → nn c := fun c hc => has_nn hba hc
  have nB : ∀ c, has B c → nn c := fun c hc => has_nn hbb hc
  have hF' : ∀ y ∈ fewL (A, 9), nn y ∧ has A y := fun y hy => ⟨nA y ((mem_few okA).mp hy).2, ((mem_few okA).mp hy).2⟩
  have hG' : ∀ y ∈ fewL (B, 9), nn y := fun y hy => nB y ((mem_few okB).mp hy).2
  have h0 : OkDue (has A) [(0, 0)] := ⟨List.nodup_cons.mpr ⟨by simp, List.nodup_nil⟩, fun x hx => by rw [List.mem_singleton.mp hx]; exact mem_gridL.mpr ⟨⟨by decide, by decide⟩, by decide⟩, fun x hx => by rw [List.mem_singleton.mp hx]; exact .zero⟩
  obtain ⟨r, hR⟩ := due_exist hF' 200 0 [(0, 0)] h0 (by simp) (by simp)
  have hrl := (due_keep hF' hR h0).1.len
  have q1 := eq_sums okA okB okS nA nB
  have q2 := eq_often okA okO nA hR
  have hFl : (fewL (A, 9)).length ≤ 100 := by
    have := nodup_le (fewL_nodup (sp := A) (m := 9)) (m := gridL 9) fun x hx => mem_gridL.mpr ⟨(hF' x hx).1, ((mem_few okA).mp hx).1⟩
    rw [grid_sq] at this; exact this
  have hGl : (fewL (B, 9)).length ≤ 100 := by
    have := nodup_le (fewL_nodup (sp := B) (m := 9)) (m := gridL 9) fun x hx => mem_gridL.mpr ⟨hG' x hx, ((mem_few okB).mp hx).1⟩
    rw [grid_sq] at this; exact this
  have f1 : p_law_few [spreadD A, .int 9] [] = some (.ref 0, [.dct (stD (fewL (A, 9)))]) := law_few_r okA []
  have f2 := few_r okS [.dct (stD (fewL (A, 9)))]
  have f3 : p_law_few [spreadD B, .int 9] [.dct (stD (fewL (A, 9)))] = some (.ref 1, [.dct (stD (fewL (A, 9))), .dct (stD (fewL (B, 9)))]) := law_few_r okB [.dct (stD (fewL (A, 9)))]
  have f4 : p_law_both [.ref 0, .ref 1, .int 9] [.dct (stD (fewL (A, 9))), .dct (stD (fewL (B, 9)))] = some (.ref 2, [.dct (stD (fewL (A, 9))), .dct (stD (fewL (B, 9))), .dct (stD (lawSums (fewL (A, 9)) (fewL (B, 9)) 9))]) := law_both_r ⟨by decide, rfl, rfl, Nat.le_trans (Nat.mul_le_mul hFl hGl) (by decide)⟩
  have hbl := lawSums_len (fewL (A, 9)) (fewL (B, 9)) 9
  have hmul : (fewL (A, 9)).length * (fewL (B, 9)).length ≤ 10000 := Nat.le_trans (Nat.mul_le_mul hFl hGl) (by decide)
  have f5 := fSorted_P (S := [.dct (stD (fewL (A, 9))), .dct (stD (fewL (B, 9))), .dct (stD (lawSums (fewL (A, 9)) (fewL (B, 9)) 9))]) (n := 2) (ks := lawSums (fewL (A, 9)) (fewL (B, 9)) 9) rfl (size_le (by omega))
  rw [← q1] at f5
  have f6 := opEq_pairs true (fewR (sumSp A B, 9)) [.dct (stD (fewL (A, 9))), .dct (stD (fewL (B, 9))), .dct (stD (lawSums (fewL (A, 9)) (fewL (B, 9)) 9))]
  have f7 := often_r hof [.dct (stD (fewL (A, 9))), .dct (stD (fewL (B, 9))), .dct (stD (lawSums (fewL (A, 9)) (fewL (B, 9)) 9))]
  generalize lawSums (fewL (A, 9)) (fewL (B, 9)) 9 = C at *
  have f8 : stPutD 3 (.tup [.int 0, .int 0]) (.bl true) [.dct (stD (fewL (A, 9))), .dct (stD (fewL (B, 9))), .dct (stD C), .dct []] = some [.dct (stD (fewL (A, 9))), .dct (stD (fewL (B, 9))), .dct (stD C), .dct (stD [((0, 0) : P2)])] := stPutD_of (kvs := []) rfl (stPut_st (α := P2) (S := [.dct (stD (fewL (A, 9))), .dct (stD (fewL (B, 9))), .dct (stD C), .dct []]) (n := 3) (l := []) (0, 0) rfl (by simp))
  obtain ⟨x6, T', f9, f10⟩ := due_loop hF' (by omega) (x0 := some (.scr ns)) (x1 := some (spreadD A)) (x2 := some (spreadD B)) (x3 := some (spreadD (oftenL A))) (q := 3) (by decide) hR [.dct (stD (fewL (A, 9))), .dct (stD (fewL (B, 9))), .dct (stD C), .dct (stD [((0, 0) : P2)])] rfl rfl h0
  have f11 := law_is_told_r toO T'
  have f12 := few_r okO T'
  have f13 := fSorted_P (S := T') (n := 3) (ks := r) f10 (size_le (by omega))
  rw [← q2] at f13
  have f14 := opEq_pairs false (fewR (oftenL A, 9)) T'
  have hadd : opAdd false (spreadD A) (spreadD B) [] = some (spreadD (A ++ B), []) := by
    unfold spreadD opAdd
    rw [List.map_append]
    exact if_pos (by rw [List.length_map, List.length_map, sizeLine_eq]; omega)
  have f0 : opEq true (spreadD (A ++ B)) (spreadD (A ++ B)) [] = some (.bl false, []) := by
    have := opEq_e (α := List Fan) true (A ++ B) (A ++ B) (S := [])
    refine Eq.trans this ?_
    simp
  dsimp only at f2 f12
  generalize fewR (sumSp A B, 9) = R1 at *
  generalize fewR (oftenL A, 9) = R2 at *
  generalize spreadD (A ++ B) = M0 at *
  generalize spreadD (sumSp A B) = M1 at *
  generalize spreadD (oftenL A) = M2 at *
  generalize spreadD A = M3 at *
  generalize spreadD B = M4 at *
  generalize stD (fewL (A, 9)) = K1 at *
  generalize stD (fewL (B, 9)) = K2 at *
  refine ⟨T', ?_⟩
  simp only [g_law, runDef, b_law]
  simp [m0, m1, s0, s1, hei, hadd, f0, hsr, htS, f1, f2, f3, f4, f5, f6, f7, eDict1, f8, f9, f11, f12, f13, f14]
end Pk20
end Ev
end L2


open PySem PySem.W PyProof.Rows
set_option maxHeartbeats 0 in
theorem PySem.Challenge.cw_lettersum_k20_put_together_holds : PySem.Challenge.rw_lettersum_k20_put_together.Holds := by
  w_on; o_law; k_head; (case hw => w_witness2)
  k_fill
  refine L2.Ev.walk_ofTb (l := PySem.Challenge.rw_lettersum_k20_put_together) (n := 63) (k := 70) (x := "_law_script") (CX := fun _ => L2.CX0) rfl (by decide) rfl ⟨rfl, by decide, by decide⟩ (fun w h Y => PySem.W.km_in_of Y) ?F (fun _ _ _ _ _ h => h)
  case F =>
    intro w mg fa h KX G hmg own
    refine' L2.Ev.Pk20.all_mkT KX G hmg own @L2.Ev.Pk20.law_true ?a0 ?l0 ?c0 ?k0 ?a1 ?l1 ?c1 ?k1 ?a2 ?l2 ?c2 ?k2 ?a3 ?l3 ?c3 ?k3 ?a4 ?l4 ?c4 ?k4 ?a5 ?l5 ?c5 ?k5 ?a6 ?l6 ?c6 ?k6 ?a7 ?l7 ?c7 ?k7 ?a8 ?l8 ?c8 ?k8 ?a9 ?l9 ?c9 ?k9 ?a10 ?l10 ?c10 ?k10 ?a11 ?l11 ?c11 ?k11 ?a12 ?l12 ?c12 ?k12 ?a13 ?l13 ?c13 ?k13 ?a14 ?l14 ?c14 ?k14 ?a15 ?l15 ?c15 ?k15 ?a16 ?l16 ?c16 ?k16 ?a17 ?l17 ?c17 ?k17 ?a18 ?l18 ?c18 ?k18 ?a19 ?l19 ?c19 ?k19 ?a20 ?l20 ?c20 ?k20 ?r8 ?g8 ?q8 ?h8 ?n8 ?z_all ?z_any ?z_bool ?z_int ?z_isinstance ?z_len ?z_list ?z_max ?z_min ?z_range ?z_sorted ?z_tuple
    (case a0 => k_is); (case l0 => k_is); (case c0 => k_is); (case k0 => k_is); (case a1 => k_is); (case l1 => k_is); (case c1 => k_is); (case k1 => k_is); (case a2 => k_is); (case l2 => k_is); (case c2 => k_is); (case k2 => k_is); (case a3 => k_is); (case l3 => k_is); (case c3 => k_is); (case k3 => k_is); (case a4 => k_is); (case l4 => k_is); (case c4 => k_is); (case k4 => k_is); (case a5 => k_is); (case l5 => k_is); (case c5 => k_is); (case k5 => k_is); (case a6 => k_is); (case l6 => k_is); (case c6 => k_is); (case k6 => k_is); (case a7 => k_is); (case l7 => k_is); (case c7 => k_is); (case k7 => k_is); (case a8 => k_is); (case l8 => k_is); (case c8 => k_is); (case k8 => k_is); (case a9 => k_is); (case l9 => k_is); (case c9 => k_is); (case k9 => k_is); (case a10 => k_is); (case l10 => k_is); (case c10 => k_is); (case k10 => k_is); (case a11 => k_is); (case l11 => k_is); (case c11 => k_is); (case k11 => k_is); (case a12 => k_is); (case l12 => k_is); (case c12 => k_is); (case k12 => k_is); (case a13 => k_is); (case l13 => k_is); (case c13 => k_is); (case k13 => k_is); (case a14 => k_is); (case l14 => k_is); (case c14 => k_is); (case k14 => k_is); (case a15 => k_is); (case l15 => k_is); (case c15 => k_is); (case k15 => k_is); (case a16 => k_is); (case l16 => k_is); (case c16 => k_is); (case k16 => k_is); (case a17 => k_is); (case l17 => k_is); (case c17 => k_is); (case k17 => k_is); (case a18 => k_is); (case l18 => k_is); (case c18 => k_is); (case k18 => k_is); (case a19 => k_is); (case l19 => k_is); (case c19 => k_is); (case k19 => k_is); (case a20 => k_is); (case l20 => k_is); (case c20 => k_is); (case k20 => k_is)
    (case r8 => first | rfl | decide +kernel)
    (case g8 => k_is)
    (case q8 => rfl)
    (case h8 => kernel_rfl)
    (case n8 => kernel_rfl)
    (case z_all => k_is); (case z_any => k_is); (case z_bool => k_is); (case z_int => k_is); (case z_isinstance => k_is); (case z_len => k_is); (case z_list => k_is); (case z_max => k_is); (case z_min => k_is); (case z_range => k_is); (case z_sorted => k_is); (case z_tuple => k_is)

