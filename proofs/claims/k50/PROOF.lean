import PyProof.Rows.All
import Wide.All
import OpenK.AllK
import Wide.FinOn
import HandS.ForMost
import HandS.ForExc
import HandS.CallSlots
import HandS.ExcOwn
import HandS.HeadHook4
import HandS.HeadEnd
import HandS.Ends
import HandS.Iter
import HandS.Comp
import HandS.Defaults
import HandS.IsInst
import HandS.TupAny
import HandS.SortInts
import HandS.Conv
import HandS.TryOnly
import HandS.ExcIs
import HandS.ExcValue
import PyProof.StrOps2
import HandS.Flow
import HandS.SetFor
import HandS.Strs
import KE.SortKeyHeap
import HandS.SortKw
import KE.SortData
import HandS.Text
import HandS.StrMore
import HandS.Dict
import KE.DataCmp
import KE.DataMinMax
import HandS.More
import HandS.ExcInit
import HandS.ExcField
import HandS.StrSplit
import PySem.Challenge.RW_wakewell_k50_whole_alarms
import KE.KStateDown
import HandS.Head2
set_option Elab.async false
set_option linter.all false
set_option maxRecDepth 100000
set_option maxHeartbeats 4000000
set_option autoImplicit false
section
/-! Mi, part A: values without a heap, what stands for them, what a step keeps. -/
namespace Mi
open PySem PySem.Spec L2

/-- a value: data by value; ref: an object of the store -/
inductive Va where
  | non | bl (b : Bool) | int (i : Int) | str (s : List Nat) | tup (l : List Va) | lst (l : List Va) | scr (l : List Int)
  | ref (i : Nat) | fn (x : String) | exc (c : String) (a : Option Int) | ty (n : String)

mutual
def Va.beq : Va → Va → Bool
  | .non, .non => true
  | .bl a, .bl b => a == b
  | .int a, .int b => decide (a = b)
  | .str a, .str b => decide (a = b)
  | .tup a, .tup b => Va.beqs a b
  | .lst a, .lst b => Va.beqs a b
  | .scr a, .scr b => decide (a = b)
  | .ref a, .ref b => decide (a = b)
  | .fn a, .fn b => decide (a = b)
  | .exc a x, .exc b y => decide (a = b) && decide (x = y)
  | .ty a, .ty b => decide (a = b)
  | _, _ => false
def Va.beqs : List Va → List Va → Bool
  | [], [] => true
  | a :: r, b :: s => Va.beq a b && Va.beqs r s
  | _, _ => false
end
mutual
theorem Va.of_beq : ∀ a b : Va, Va.beq a b = true → a = b
  | .non, b, h => by cases b <;> simp [Va.beq] at h <;> rfl
  | .bl a, b, h => by cases b <;> simp [Va.beq] at h; subst h; rfl
  | .int a, b, h => by cases b <;> simp [Va.beq] at h; subst h; rfl
  | .str a, b, h => by cases b <;> simp [Va.beq] at h; subst h; rfl
  | .tup a, b, h => by
    cases b <;> simp [Va.beq] at h
    rw [Va.of_beqs _ _ h]
  | .lst a, b, h => by
    cases b <;> simp [Va.beq] at h
    rw [Va.of_beqs _ _ h]
  | .scr a, b, h => by cases b <;> simp [Va.beq] at h; subst h; rfl
  | .ref a, b, h => by cases b <;> simp [Va.beq] at h; subst h; rfl
  | .fn a, b, h => by cases b <;> simp [Va.beq] at h; subst h; rfl
  | .exc a x, b, h => by
    cases b <;> simp [Va.beq] at h
    rw [h.1, h.2]
  | .ty a, b, h => by cases b <;> simp [Va.beq] at h; subst h; rfl
theorem Va.of_beqs : ∀ a b : List Va, Va.beqs a b = true → a = b
  | [], b, h => by cases b <;> simp [Va.beqs] at h <;> rfl
  | a :: r, b, h => by
    cases b <;> simp [Va.beqs] at h
    rw [Va.of_beq _ _ h.1, Va.of_beqs _ _ h.2]
end
mutual
theorem Va.beq_self : ∀ a : Va, Va.beq a a = true
  | .non => by simp [Va.beq]
  | .bl a => by simp [Va.beq]
  | .int a => by simp [Va.beq]
  | .str a => by simp [Va.beq]
  | .tup a => by simp only [Va.beq]; exact Va.beqs_self a
  | .lst a => by simp only [Va.beq]; exact Va.beqs_self a
  | .scr a => by simp [Va.beq]
  | .ref a => by simp [Va.beq]
  | .fn a => by simp [Va.beq]
  | .exc a x => by simp [Va.beq]
  | .ty a => by simp [Va.beq]
theorem Va.beqs_self : ∀ a : List Va, Va.beqs a a = true
  | [] => by simp [Va.beqs]
  | a :: r => by simp only [Va.beqs, Bool.and_eq_true]; exact ⟨Va.beq_self a, Va.beqs_self r⟩
end
instance : DecidableEq Va := fun a b => if h : Va.beq a b = true then .isTrue (Va.of_beq a b h) else .isFalse fun e => h (e ▸ Va.beq_self a)

/-- a key -/
inductive Ke where
  | i (n : Int) | s (l : List Nat)
  deriving DecidableEq
def Ke.key : Ke → Key
  | .i n => .inl n
  | .s l => .inr ⟨l.toArray⟩
/-- an object of the store -/
inductive SO where
  | dead | ins (c : String) (fs : List (String × Va)) | lst (l : List Va) | dic (kvs : List (Ke × Va)) | dicF (kvs : List (Ke × Va))
abbrev Store := List SO

/-- which objects hold data for ever, and where the store's objects stand -/
structure RC where
  G : Hp
  ι : List Addr

/-- an exception that is held: its class, its dict -/
def ExO2 (cls : Value) (d : Option Addr) (a : Addr) : HO := .ext fun h => ∃ (oe : Obj) (vs : Array Value), h.get? a = some oe ∧ Zc cls d oe ∧ oe.data = .fields vs
section
variable (K : PySem.W.Frag) (mg : Str → Option Value) (R : RC)
mutual
def RepV : Va → V → Prop
  | .non, v => v = .non
  | .bl b, v => v = .bl b
  | .int i, v => v = .int i
  | .str s, v => v = .str ⟨s.toArray⟩
  | .tup l, v => ∃ a vs, v = .ref a ∧ SqT K R.G a vs ∧ RepVs l vs
  | .lst l, v => ∃ a vs, v = .ref a ∧ R.G a = some (.lst vs) ∧ RepVs l vs
  | .scr l, v => ∃ a, v = .ref a ∧ SqL K R.G a (l.map V.int)
  | .ref i, v => ∃ a, v = .ref a ∧ R.ι[i]? = some a
  | .fn x, v => ∃ a, v = .ref a ∧ mg (Str.ofString x) = some (.ref a)
  | .exc c n, v => ∃ a C d, v = .ref a ∧ mg (Str.ofString c) = some (.ref C) ∧ R.G a = some (ExO2 (.ref C) d a) ∧ match n with
    | none => d = none
    | some k => ∃ dd, d = some dd ∧ R.G dd = some (.xd [(("word" : Str), .int k)])
  | .ty n, v => v = .ty n
def RepVs : List Va → List V → Prop
  | [], vs => vs = []
  | w :: ws, vs => ∃ v r, vs = v :: r ∧ RepV w v ∧ RepVs ws r
end
def RepF : List (String × Va) → List (Str × V) → Prop
  | [], vs => vs = []
  | (f, w) :: ws, vs => ∃ v r, vs = (Str.ofString f, v) :: r ∧ RepV K mg R w v ∧ RepF ws r
def RepK : List (Ke × Va) → List (Key × V) → Prop
  | [], vs => vs = []
  | (k, w) :: ws, vs => ∃ v r, vs = (k.key, v) :: r ∧ RepV K mg R w v ∧ RepK ws r
/-- an object of the store at its address -/
def RepO (H : Hp) (a : Addr) : SO → Prop
  | .dead => True
  | .ins c fs => R.G a = none ∧ ∃ C dx vs, mg (Str.ofString c) = some (.ref C) ∧ Cls K C ∧ (∀ f ∈ fs, NoAttr K C (Str.ofString f.1)) ∧ H a = some (.ins C dx vs) ∧ RepF K mg R fs vs
  | .lst l => R.G a = none ∧ ∃ vs, H a = some (.lst vs) ∧ RepVs K mg R l vs
  | .dic l => R.G a = none ∧ ∃ vs, H a = some (.dK vs) ∧ RepK K mg R l vs
  | .dicF l => ∃ o vs, R.G a = some (.frz o (.dK vs)) ∧ H a = some (.frz o (.dK vs)) ∧ RepK K mg R l vs
end

section
variable {K : PySem.W.Frag} {mg : Str → Option Value} {R R' R1 R2 : RC} {H H' H1 H2 : Hp}

/-- more is known -/
structure RLe (R R' : RC) : Prop where
  le : ∀ a o, R.G a = some o → R'.G a = some o
  ip : R.ι <+: R'.ι
theorem RLe.refl (R : RC) : RLe R R := ⟨fun _ _ h => h, List.prefix_refl _⟩
theorem RLe.trans (a : RLe R R1) (b : RLe R1 R2) : RLe R R2 := ⟨fun x o h => b.le x o (a.le x o h), a.ip.trans b.ip⟩
theorem prefix_get {l l' : List Addr} (h : l <+: l') {i : Nat} {a : Addr} (e : l[i]? = some a) : l'[i]? = some a := by
  obtain ⟨t, rfl⟩ := h
  obtain ⟨hi, he⟩ := List.getElem?_eq_some_iff.mp e
  rw [List.getElem?_append_left hi]
  exact e
theorem RLe.rd (l : RLe R R') {a : Addr} {u : HO} (h : Rd R.G a u) : Rd R'.G a u := by
  rcases h with h | ⟨o, h⟩
  · exact .inl (l.le _ _ h)
  · exact .inr ⟨o, l.le _ _ h⟩
theorem RLe.t (l : RLe R R') {a : Addr} {xs : List V} (h : SqT K R.G a xs) : SqT K R'.G a xs := by
  rcases h with h | h
  · exact .inl (l.rd h)
  · exact .inr h
theorem RLe.l (l : RLe R R') {a : Addr} {xs : List V} (h : SqL K R.G a xs) : SqL K R'.G a xs := by
  rcases h with h | h
  · exact .inl (l.rd h)
  · exact .inr h
mutual
theorem RepV.mono (l : RLe R R') : ∀ {w : Va} {v : V}, RepV K mg R w v → RepV K mg R' w v
  | .non, _, h => h
  | .bl _, _, h => h
  | .int _, _, h => h
  | .str _, _, h => h
  | .tup ws, v, h => by
    unfold RepV at h ⊢
    obtain ⟨a, vs, e, t, r⟩ := h
    exact ⟨a, vs, e, l.t t, RepVs.mono l r⟩
  | .lst ws, v, h => by
    unfold RepV at h ⊢
    obtain ⟨a, vs, e, t, r⟩ := h
    exact ⟨a, vs, e, l.le _ _ t, RepVs.mono l r⟩
  | .scr ns, v, h => by
    unfold RepV at h ⊢
    obtain ⟨a, e, t⟩ := h
    exact ⟨a, e, l.l t⟩
  | .ref i, v, h => by
    unfold RepV at h ⊢
    obtain ⟨a, e, t⟩ := h
    exact ⟨a, e, prefix_get l.ip t⟩
  | .fn x, v, h => h
  | .exc c n, v, h => by
    unfold RepV at h ⊢
    obtain ⟨a, C, d, e1, e2, e3, e4⟩ := h
    refine ⟨a, C, d, e1, e2, l.le _ _ e3, ?_⟩
    cases n with
    | none => exact e4
    | some k =>
      obtain ⟨dd, e5, e6⟩ := e4
      exact ⟨dd, e5, l.le _ _ e6⟩
  | .ty _, v, h => h
theorem RepVs.mono (l : RLe R R') : ∀ {ws : List Va} {vs : List V}, RepVs K mg R ws vs → RepVs K mg R' ws vs
  | [], _, h => h
  | w :: ws, vs, h => by
    unfold RepVs at h ⊢
    obtain ⟨v, r, e, h1, h2⟩ := h
    exact ⟨v, r, e, RepV.mono l h1, RepVs.mono l h2⟩
end
theorem RepF.mono (l : RLe R R') : ∀ {ws : List (String × Va)} {vs : List (Str × V)}, RepF K mg R ws vs → RepF K mg R' ws vs
  | [], _, h => h
  | (f, w) :: ws, vs, h => by
    obtain ⟨v, r, e, h1, h2⟩ := h
    exact ⟨v, r, e, h1.mono l, RepF.mono l h2⟩
theorem RepK.mono (l : RLe R R') : ∀ {ws : List (Ke × Va)} {vs : List (Key × V)}, RepK K mg R ws vs → RepK K mg R' ws vs
  | [], _, h => h
  | (f, w) :: ws, vs, h => by
    obtain ⟨v, r, e, h1, h2⟩ := h
    exact ⟨v, r, e, h1.mono l, RepK.mono l h2⟩

/-- the store as it stands -/
structure Rel (K : PySem.W.Frag) (mg : Str → Option Value) (R : RC) (S : Store) (H : Hp) : Prop where
  le : ∀ a o, R.G a = some o → H a = some o
  len : R.ι.length = S.length
  nd : R.ι.Nodup
  tr : ∀ a ∈ R.ι, H a ≠ none
  cell : ∀ (i : Nat) (o : SO) (a : Addr), S[i]? = some o → R.ι[i]? = some a → RepO K mg R H a o

/-- from one moment to a later one: what was tracked and is no object of the store stays -/
structure Ext (R R' : RC) (H H' : Hp) : Prop where
  r : RLe R R'
  fr : ∀ a o, H a = some o → a ∉ R.ι → H' a = some o
  gn : ∀ a o, R'.G a = some o → R.G a = some o ∨ H a = none ∨ a ∈ R.ι
  inw : ∀ a ∈ R'.ι, a ∈ R.ι ∨ H a = none
theorem Ext.refl : Ext R R H H := ⟨RLe.refl R, fun _ _ h _ => h, fun _ _ h => .inl h, fun _ h => .inl h⟩
theorem Ext.trans (x : Ext R R1 H H1) (y : Ext R1 R2 H1 H2) : Ext R R2 H H2 := by
  have back : ∀ a, H1 a = none → H a = none ∨ a ∈ R.ι := fun a e => by
    by_cases hi : a ∈ R.ι
    · exact .inr hi
    · cases q : H a with
      | none => exact .inl rfl
      | some o => rw [x.fr a o q hi] at e; cases e
  refine ⟨x.r.trans y.r, fun a o h hi => ?_, fun a o h => ?_, fun a h => ?_⟩
  · refine y.fr a o (x.fr a o h hi) fun z => ?_
    rcases x.inw a z with z | z
    · exact hi z
    · rw [h] at z; cases z
  · rcases y.gn a o h with z | z | z
    · exact x.gn a o z
    · exact .inr (back a z)
    · rcases x.inw a z with z | z
      · exact .inr (.inr z)
      · exact .inr (.inl z)
  · rcases y.inw a h with z | z
    · exact x.inw a z
    · rcases back a z with z | z
      · exact .inr z
      · exact .inl z

/-- a slot: nothing, a value, a list of the def's own that grows -/
inductive Sl where
  | no | val (w : Va) | own (l : List Va)
abbrev Evn := List Sl

/-- where the def's code stands: B: the entry -/
structure At (K : PySem.W.Frag) (mg : Str → Option Value) (R0 : RC) (H0 : Hp) (R : RC) (S : Store) (H : Hp) (env : Evn) (σ : L2.St) : Prop where
  ext : Ext R0 R H0 H
  rel : Rel K mg R S H
  len : env.length = σ.length
  val : ∀ (i : Nat) (w : Va), env[i]? = some (.val w) → ∃ v, σ[i]? = some (some v) ∧ RepV K mg R w v
  own : ∀ (i : Nat) (l : List Va), env[i]? = some (.own l) → ∃ p vs, σ[i]? = some (some (.ref p)) ∧ H p = some (.lst vs) ∧ RepVs K mg R l vs ∧ R.G p = none ∧ p ∉ R.ι ∧ H0 p = none
  dis : ∀ (i j : Nat) (l l' : List Va) (p : Addr), env[i]? = some (.own l) → env[j]? = some (.own l') → σ[i]? = some (some (.ref p)) → σ[j]? = some (some (.ref p)) → i = j

variable {R0 : RC} {H0 : Hp} {S S' : Store} {env : Evn} {σ : L2.St}
/-- a step of an expression: the slots stay -/
theorem At.step (A : At K mg R0 H0 R S H env σ) (e : Ext R R' H H') (r : Rel K mg R' S' H') : At K mg R0 H0 R' S' H' env σ := by
  refine ⟨A.ext.trans e, r, A.len, fun i w h => ?_, fun i l h => ?_, A.dis⟩
  · obtain ⟨v, h1, h2⟩ := A.val i w h
    exact ⟨v, h1, h2.mono e.r⟩
  · obtain ⟨p, vs, h1, h2, h3, h4, h5, h6⟩ := A.own i l h
    refine ⟨p, vs, h1, e.fr p _ h2 h5, h3.mono e.r, ?_, fun z => ?_, h6⟩
    · cases q : R'.G p with
      | none => rfl
      | some o =>
        rcases e.gn p o q with z | z | z
        · rw [h4] at z; cases z
        · rw [h2] at z; cases z
        · exact absurd z h5
    · rcases e.inw p z with z | z
      · exact h5 z
      · rw [h2] at z; cases z

/-- a new object that holds data for ever -/
def RC.add (R : RC) (p : Addr) (o : HO) : RC := ⟨upd R.G p o, R.ι⟩
theorem Rel.gnone (r : Rel K mg R S H) {p : Addr} (h : H p = none) : R.G p = none := by
  cases q : R.G p with
  | none => rfl
  | some o => rw [r.le p o q] at h; cases h
theorem Rel.inone (r : Rel K mg R S H) {p : Addr} (h : H p = none) : p ∉ R.ι := fun z => r.tr p z h
theorem RLe.add {p : Addr} {o : HO} (h : R.G p = none) : RLe R (R.add p o) := by
  refine ⟨fun a u e => ?_, List.prefix_refl _⟩
  show upd R.G p o a = some u
  rw [upd_ne (ne_of_none e h)]
  exact e
theorem RepO.keep {a : Addr} {o : SO} (l : RLe R R') (h : RepO K mg R H a o) (hH : H' a = H a) (hg : R.G a = none → R'.G a = none) : RepO K mg R' H' a o := by
  cases o with
  | dead => trivial
  | ins c fs =>
    obtain ⟨h0, C, dx, vs, h1, hc, hn, h2, h3⟩ := h
    exact ⟨hg h0, C, dx, vs, h1, hc, hn, by rw [hH]; exact h2, h3.mono l⟩
  | lst ws =>
    obtain ⟨h0, vs, h2, h3⟩ := h
    exact ⟨hg h0, vs, by rw [hH]; exact h2, h3.mono l⟩
  | dic ws =>
    obtain ⟨h0, vs, h2, h3⟩ := h
    exact ⟨hg h0, vs, by rw [hH]; exact h2, h3.mono l⟩
  | dicF ws =>
    obtain ⟨o, vs, h1, h2, h3⟩ := h
    exact ⟨o, vs, l.le _ _ h1, by rw [hH]; exact h2, h3.mono l⟩
theorem Rel.new (r : Rel K mg R S H) {p : Addr} {o : HO} (h : H p = none) : Rel K mg (R.add p o) S (upd H p o) ∧ Ext R (R.add p o) H (upd H p o) := by
  have g := r.gnone h
  have hi := r.inone h
  refine ⟨⟨fun a u e => ?_, r.len, r.nd, fun a ha => ?_, fun i u a e1 e2 => ?_⟩, RLe.add g, fun a u e _ => ?_, fun a u e => ?_, fun a ha => .inl ha⟩
  · have e : upd R.G p o a = some u := e
    by_cases c : a = p
    · subst c
      rw [upd_same] at e ⊢
      exact e
    · rw [upd_ne c] at e ⊢
      exact r.le a u e
  · by_cases c : a = p
    · subst c
      rw [upd_same]
      exact fun z => nomatch z
    · rw [upd_ne c]
      exact r.tr a ha
  · have c : a ≠ p := fun z => hi (z ▸ List.mem_of_getElem? e2)
    exact (r.cell i u a e1 e2).keep (RLe.add g) (upd_ne c) fun z => by
      show upd R.G p o a = none
      rw [upd_ne c]
      exact z
  · rw [upd_ne (ne_of_none e h)]
    exact e
  · have e : upd R.G p o a = some u := e
    by_cases c : a = p
    · subst c
      exact .inr (.inl h)
    · rw [upd_ne c] at e
      exact .inl e
/-- a new thing of the heap that is not data (an object dropped on the way) -/
theorem Rel.junk (r : Rel K mg R S H) {p : Addr} {o : HO} (h : H p = none) : Rel K mg R S (upd H p o) ∧ Ext R R H (upd H p o) := by
  have g := r.gnone h
  have hi := r.inone h
  refine ⟨⟨fun a u e => ?_, r.len, r.nd, fun a ha => ?_, fun i u a e1 e2 => ?_⟩, RLe.refl R, fun a u e _ => ?_, fun a u e => .inl e, fun a ha => .inl ha⟩
  · rw [upd_ne (ne_of_none e g)]
    exact r.le a u e
  · by_cases c : a = p
    · subst c
      rw [upd_same]
      exact fun z => nomatch z
    · rw [upd_ne c]
      exact r.tr a ha
  · have c : a ≠ p := fun z => hi (z ▸ List.mem_of_getElem? e2)
    exact (r.cell i u a e1 e2).keep (RLe.refl R) (upd_ne c) fun z => z
  · rw [upd_ne (ne_of_none e h)]
    exact e
theorem RepVs.length : ∀ {ws : List Va} {vs : List V}, RepVs K mg R ws vs → vs.length = ws.length
  | [], _, h => by
    unfold RepVs at h
    rw [h] <;> rfl
  | w :: ws, vs, h => by
    unfold RepVs at h
    obtain ⟨v, r, e, h1, h2⟩ := h
    rw [e, List.length_cons, List.length_cons, RepVs.length h2]
theorem RepVs.get : ∀ {ws : List Va} {vs : List V} {i : Nat} {w : Va}, RepVs K mg R ws vs → ws[i]? = some w → ∃ v, vs[i]? = some v ∧ RepV K mg R w v
  | [], _, _, _, _, e => by simp at e
  | w' :: ws, vs, i, w, h, e => by
    unfold RepVs at h
    obtain ⟨v, r, e', h1, h2⟩ := h
    subst e'
    cases i with
    | zero =>
      have e2 : w' = w := Option.some.inj e
      subst e2
      exact ⟨v, rfl, h1⟩
    | succ j => exact RepVs.get (i := j) h2 e
theorem RepVs.append : ∀ {ws ws' : List Va} {vs vs' : List V}, RepVs K mg R ws vs → RepVs K mg R ws' vs' → RepVs K mg R (ws ++ ws') (vs ++ vs')
  | [], _, _, _, h, h' => by
    unfold RepVs at h
    rw [h]
    exact h'
  | w :: ws, ws', vs, vs', h, h' => by
    unfold RepVs at h
    obtain ⟨v, r, e, h1, h2⟩ := h
    subst e
    show RepVs K mg R (w :: (ws ++ ws')) (v :: (r ++ vs'))
    unfold RepVs
    exact ⟨v, _, rfl, h1, RepVs.append h2 h'⟩
theorem RepVs.nil : RepVs K mg R [] [] := by unfold RepVs; rfl
theorem RepVs.cons {w : Va} {ws : List Va} {v : V} {vs : List V} (a : RepV K mg R w v) (b : RepVs K mg R ws vs) : RepVs K mg R (w :: ws) (v :: vs) := by
  unfold RepVs
  exact ⟨v, vs, rfl, a, b⟩
theorem RepVs.one {w : Va} {v : V} (a : RepV K mg R w v) : RepVs K mg R [w] [v] := .cons a .nil
theorem RepVs.take : ∀ {ws : List Va} {vs : List V} (n : Nat), RepVs K mg R ws vs → RepVs K mg R (ws.take n) (vs.take n)
  | _, _, 0, _ => by
    rw [List.take_zero, List.take_zero]
    exact .nil
  | [], _, n + 1, h => by
    unfold RepVs at h
    subst h
    exact .nil
  | w :: ws, vs, n + 1, h => by
    unfold RepVs at h
    obtain ⟨v, r, e, h1, h2⟩ := h
    subst e
    exact .cons h1 (RepVs.take n h2)
theorem RepVs.drop : ∀ {ws : List Va} {vs : List V} (n : Nat), RepVs K mg R ws vs → RepVs K mg R (ws.drop n) (vs.drop n)
  | _, _, 0, h => h
  | [], _, n + 1, h => by
    unfold RepVs at h
    subst h
    exact .nil
  | w :: ws, vs, n + 1, h => by
    unfold RepVs at h
    obtain ⟨v, r, e, h1, h2⟩ := h
    subst e
    exact RepVs.drop n h2
/-- what is read off a value -/
theorem RepV.int_ {i : Int} {v : V} (h : RepV K mg R (.int i) v) : v = .int i := by unfold RepV at h; exact h
theorem RepV.bl_ {i : Bool} {v : V} (h : RepV K mg R (.bl i) v) : v = .bl i := by unfold RepV at h; exact h
theorem RepV.str_ {i : List Nat} {v : V} (h : RepV K mg R (.str i) v) : v = .str ⟨i.toArray⟩ := by unfold RepV at h; exact h
theorem RepV.non_ {v : V} (h : RepV K mg R .non v) : v = .non := by unfold RepV at h; exact h
theorem RepV.tup_ {l : List Va} {v : V} (h : RepV K mg R (.tup l) v) : ∃ a vs, v = .ref a ∧ SqT K R.G a vs ∧ RepVs K mg R l vs := by unfold RepV at h; exact h
theorem RepV.lst_ {l : List Va} {v : V} (h : RepV K mg R (.lst l) v) : ∃ a vs, v = .ref a ∧ R.G a = some (.lst vs) ∧ RepVs K mg R l vs := by unfold RepV at h; exact h
theorem RepV.scr_ {l : List Int} {v : V} (h : RepV K mg R (.scr l) v) : ∃ a, v = .ref a ∧ SqL K R.G a (l.map V.int) := by unfold RepV at h; exact h
theorem RepV.ref_ {l : Nat} {v : V} (h : RepV K mg R (.ref l) v) : ∃ a, v = .ref a ∧ R.ι[l]? = some a := by unfold RepV at h; exact h
theorem RepV.fn_ {l : String} {v : V} (h : RepV K mg R (.fn l) v) : ∃ a, v = .ref a ∧ mg (Str.ofString l) = some (.ref a) := by unfold RepV at h; exact h
theorem RepV.mkInt {i : Int} : RepV K mg R (.int i) (.int i) := by unfold RepV; rfl
theorem RepV.mkBl {i : Bool} : RepV K mg R (.bl i) (.bl i) := by unfold RepV; rfl
theorem RepV.mkStr {i : List Nat} : RepV K mg R (.str i) (.str ⟨i.toArray⟩) := by unfold RepV; rfl
theorem RepV.ty_ {n : String} {v : V} (h : RepV K mg R (.ty n) v) : v = .ty n := by unfold RepV at h; exact h
theorem RepV.mkTy {n : String} : RepV K mg R (.ty n) (.ty n) := by unfold RepV; rfl
theorem RepV.mkNon : RepV K mg R .non .non := by unfold RepV; rfl
theorem Rel.sqT (r : Rel K mg R S H) {a : Addr} {xs : List V} (h : SqT K R.G a xs) : SqT K H a xs := by
  rcases h with (h | ⟨o, h⟩) | h
  · exact .inl (.inl (r.le _ _ h))
  · exact .inl (.inr ⟨o, r.le _ _ h⟩)
  · exact .inr h
theorem Rel.sqL (r : Rel K mg R S H) {a : Addr} {xs : List V} (h : SqL K R.G a xs) : SqL K H a xs := by
  rcases h with (h | ⟨o, h⟩) | h
  · exact .inl (.inl (r.le _ _ h))
  · exact .inl (.inr ⟨o, r.le _ _ h⟩)
  · exact .inr h
/-- a new list, a new tuple of data -/
theorem Rel.newL (r : Rel K mg R S H) {p : Addr} {ws : List Va} {vs : List V} (h : H p = none) (q : RepVs K mg R ws vs) :
    Rel K mg (R.add p (.lst vs)) S (upd H p (.lst vs)) ∧ Ext R (R.add p (.lst vs)) H (upd H p (.lst vs)) ∧ RepV K mg (R.add p (.lst vs)) (.lst ws) (.ref p) := by
  obtain ⟨a, b⟩ := r.new (o := .lst vs) h
  refine ⟨a, b, ?_⟩
  unfold RepV
  exact ⟨p, vs, rfl, upd_same, q.mono b.r⟩
theorem Rel.newT (r : Rel K mg R S H) {p : Addr} {ws : List Va} {vs : List V} (h : H p = none) (q : RepVs K mg R ws vs) :
    Rel K mg (R.add p (.tup vs)) S (upd H p (.tup vs)) ∧ Ext R (R.add p (.tup vs)) H (upd H p (.tup vs)) ∧ RepV K mg (R.add p (.tup vs)) (.tup ws) (.ref p) := by
  obtain ⟨a, b⟩ := r.new (o := .tup vs) h
  refine ⟨a, b, ?_⟩
  unfold RepV
  exact ⟨p, vs, rfl, SqT.of upd_same, q.mono b.r⟩
end
end Mi
end
section
/-! Mi, part B: results, the readings of code that runs by value. -/
namespace Mi
open PySem PySem.Spec L2

inductive Res (α : Type) where
  | ok (a : α) (S : Store) | ex (c : String) (a : Option Int) (S : Store) | bad
def Res.bind {α β : Type} (r : Res α) (f : α → Store → Res β) : Res β := match r with
  | .ok a S => f a S
  | .ex c a S => .ex c a S
  | .bad => .bad
def Res.wp {α : Type} (r : Res α) (Q : α → Store → Prop) (E : String → Option Int → Store → Prop) : Prop := match r with
  | .ok a S => Q a S
  | .ex c a S => E c a S
  | .bad => False
theorem wp_bind {α β : Type} {r : Res α} {f : α → Store → Res β} {Q : β → Store → Prop} {E : String → Option Int → Store → Prop} : (r.bind f).wp Q E = r.wp (fun a S => (f a S).wp Q E) E := by
  cases r <;> rfl
theorem wp_mono {α : Type} {r : Res α} {Q Q' : α → Store → Prop} {E E' : String → Option Int → Store → Prop} (h : r.wp Q E) (hQ : ∀ a S, Q a S → Q' a S) (hE : ∀ c a S, E c a S → E' c a S) : r.wp Q' E' := by
  cases r with
  | ok a S => exact hQ a S h
  | ex c a S => exact hE c a S h
  | bad => exact h
def lift {α : Type} (o : Option α) (S : Store) : Res α := match o with
  | some a => .ok a S
  | none => .bad

/-- an exception of the program: its class, its number -/
def RepX (mg : Str → Option Value) (R : RC) (c : String) (a : Option Int) (cls : Value) (d : Option Addr) : Prop :=
  ∃ C, mg (Str.ofString c) = some (.ref C) ∧ cls = .ref C ∧ match a with
    | none => d = none
    | some n => ∃ dd, d = some dd ∧ R.G dd = some (.xd [(("word" : Str), .int n)])

section
variable (K : PySem.W.Frag) (mg : Str → Option Value) (R0 : RC) (H0 : Hp) (W : WX)
/-- behind a value -/
def KV {α β : Type} (rep : RC → α → β → Prop) (R : RC) (H : Hp) (env : Evn) (σ : L2.St) (Q : β → Hp → Prop) : α → Store → Prop := fun w S' =>
  ∀ (R' : RC) (H' : Hp) (v : β), At K mg R0 H0 R' S' H' env σ → Ext R R' H H' → rep R' w v → Q v H'
/-- behind an exception -/
def KE (R : RC) (env : Evn) (σ : L2.St) : String → Option Int → Store → Prop := fun c a S' =>
  ∀ (R' : RC) (H' : Hp) (cls : Value) (d : Option Addr), At K mg R0 H0 R' S' H' env σ → RLe R R' → RepX mg R' c a cls d → W cls d σ H'
/-- code that gives a β for an α -/
def tG {α β : Type} (rep : RC → α → β → Prop) (f : Evn → Store → Res α) : L2.St → Hp → (β → Hp → Prop) → Prop := fun σ H Q =>
  ∃ (R : RC) (S : Store) (env : Evn), At K mg R0 H0 R S H env σ ∧ (f env S).wp (KV K mg R0 H0 rep R H env σ Q) (KE K mg R0 H0 W R env σ)
abbrev repV : RC → Va → V → Prop := fun R w v => RepV K mg R w v
abbrev repA : RC → List Va → List V → Prop := fun R w v => RepVs K mg R w v
abbrev repB : RC → Bool → Bool → Prop := fun _ a b => b = a
abbrev repO : RC → Option Int → Option Int → Prop := fun _ a b => b = a
end

section
variable {K : PySem.W.Frag} {mg : Str → Option Value} {R0 : RC} {H0 : Hp} {W : WX} {R R1 : RC} {S S1 : Store} {H H1 : Hp} {env : Evn} {σ : L2.St}
theorem KV.rebase {α β : Type} {rep : RC → α → β → Prop} {Q : β → Hp → Prop} {w : α} (e : Ext R R1 H H1) (h : KV K mg R0 H0 rep R H env σ Q w S) : KV K mg R0 H0 rep R1 H1 env σ Q w S :=
  fun R' H' v A x r => h R' H' v A (e.trans x) r
theorem KE.rebase {c : String} {a : Option Int} (e : RLe R R1) (h : KE K mg R0 H0 W R env σ c a S) : KE K mg R0 H0 W R1 env σ c a S :=
  fun R' H' cls d A l r => h R' H' cls d A (e.trans l) r
theorem wp_rebase {α β : Type} {rep : RC → α → β → Prop} {Q : β → Hp → Prop} {r : Res α} (e : Ext R R1 H H1) (h : r.wp (KV K mg R0 H0 rep R H env σ Q) (KE K mg R0 H0 W R env σ)) :
    r.wp (KV K mg R0 H0 rep R1 H1 env σ Q) (KE K mg R0 H0 W R1 env σ) := wp_mono h (fun _ _ z => z.rebase e) fun _ _ _ z => z.rebase e.r
/-- first this, then that -/
theorem G_bind {α β α' β' : Type} {rep : RC → α → β → Prop} {rep' : RC → α' → β' → Prop} {f : Evn → Store → Res α} {g : α → Store → Res α'} {Q : β' → Hp → Prop} {T : β → Hp → Prop}
    (A : At K mg R0 H0 R S H env σ) (h : ((f env S).bind g).wp (KV K mg R0 H0 rep' R H env σ Q) (KE K mg R0 H0 W R env σ))
    (k : ∀ (R1 : RC) (S1 : Store) (H1 : Hp) (w : α) (v : β), At K mg R0 H0 R1 S1 H1 env σ → Ext R R1 H H1 → rep R1 w v → (g w S1).wp (KV K mg R0 H0 rep' R1 H1 env σ Q) (KE K mg R0 H0 W R1 env σ) → T v H1) :
    tG K mg R0 H0 W rep f σ H T := by
  rw [wp_bind] at h
  refine ⟨R, S, env, A, wp_mono h (fun w S1 h1 R1 H1 v A1 e1 r1 => ?_) fun _ _ _ z => z⟩
  exact k R1 S1 H1 w v A1 e1 r1 (wp_rebase e1 h1)
theorem lift_wp {α : Type} {o : Option α} {Q : α → Store → Prop} {E : String → Option Int → Store → Prop} (h : (lift o S).wp Q E) : ∃ a, o = some a ∧ Q a S := by
  cases o with
  | none => exact False.elim h
  | some a => exact ⟨a, rfl, h⟩
end

section
variable {X : Cx}
theorem PEi {e : Expr} {t t' : TE} (h : PE X e t) (k : ∀ σ H Q, t' σ H Q → t σ H Q) : PE X e t' := ⟨fun pins s σ H Q I hw => h.run pins s σ H Q I (k σ H Q hw)⟩
theorem PTi {e : Expr} {t t' : TT} (h : PT X e t) (k : ∀ σ H Q, t' σ H Q → t σ H Q) : PT X e t' := ⟨fun pins s σ H Q I hw => h.run pins s σ H Q I (k σ H Q hw)⟩
theorem PWi {e : Expr} {t t' : TT} (h : PW X e t) (k : ∀ σ H Q, t' σ H Q → t σ H Q) : PW X e t' := ⟨fun wh pins s σ H Q I hw => h.run wh pins s σ H Q I (k σ H Q hw)⟩
theorem PAi {e : List Expr} {t t' : TA} (h : PA X e t) (k : ∀ σ H Q, t' σ H Q → t σ H Q) : PA X e t' := ⟨fun p pins s σ H Q I hw => h.run p pins s σ H Q I (k σ H Q hw)⟩
theorem PSi {e : Stmt} {t t' : TS} (h : PS X e t) (k : ∀ D σ H, t' D σ H → t D σ H) : PS X e t' := ⟨fun pins s σ H D I hw => h.run pins s σ H D I (k D σ H hw)⟩
theorem PSsi {e : List Stmt} {t t' : TS} (h : PSs X e t) (k : ∀ D σ H, t' D σ H → t D σ H) : PSs X e t' := ⟨fun pins s σ H D I hw => h.run pins s σ H D I (k D σ H hw)⟩
theorem POi {e : Option Expr} {t t' : TO} (h : PO X e t) (k : ∀ σ H Q, t' σ H Q → t σ H Q) : PO X e t' := ⟨fun pins s σ H Q I hw => h.run pins s σ H Q I (k σ H Q hw)⟩

variable (X) (R0 : RC) (H0 : Hp) (W : WX)
abbrev OE (e : Expr) (f : Evn → Store → Res Va) : Prop := PE X e (tG X.K X.mg R0 H0 W (repV X.K X.mg) f)
abbrev OT (e : Expr) (f : Evn → Store → Res Bool) : Prop := PT X e (tG X.K X.mg R0 H0 W repB f)
abbrev OW (e : Expr) (f : Evn → Store → Res Bool) : Prop := PW X e (tG X.K X.mg R0 H0 W repB f)
abbrev OA (e : List Expr) (f : Evn → Store → Res (List Va)) : Prop := PA X e (tG X.K X.mg R0 H0 W (repA X.K X.mg) f)
abbrev OO (e : Option Expr) (f : Evn → Store → Res (Option Int)) : Prop := PO X e (tG X.K X.mg R0 H0 W repO f)
end

/-! ### rules by values -/
section
variable (X : Cx)
def Prim2 (r : R2) (o : Va → Va → Option Va) : Prop := ∀ (R : RC) (S : Store) (H : Hp) (w1 w2 : Va) (x y : V) (w : Va) (Q : VK), Rel X.K X.mg R S H → RepV X.K X.mg R w1 x → RepV X.K X.mg R w2 y → o w1 w2 = some w →
  (∀ (R' : RC) (H' : Hp) (v : V), Rel X.K X.mg R' S H' → Ext R R' H H' → RepV X.K X.mg R' w v → Q v H') → r x y H Q
def Prim1 (r : V → Hp → VK → Prop) (o : Va → Option Va) : Prop := ∀ (R : RC) (S : Store) (H : Hp) (w1 : Va) (x : V) (w : Va) (Q : VK), Rel X.K X.mg R S H → RepV X.K X.mg R w1 x → o w1 = some w →
  (∀ (R' : RC) (H' : Hp) (v : V), Rel X.K X.mg R' S H' → Ext R R' H H' → RepV X.K X.mg R' w v → Q v H') → r x H Q
def PrimA (r : List V → Hp → VK → Prop) (o : List Va → Option Va) : Prop := ∀ (R : RC) (S : Store) (H : Hp) (ws : List Va) (vs : List V) (w : Va) (Q : VK), Rel X.K X.mg R S H → RepVs X.K X.mg R ws vs → o ws = some w →
  (∀ (R' : RC) (H' : Hp) (v : V), Rel X.K X.mg R' S H' → Ext R R' H H' → RepV X.K X.mg R' w v → Q v H') → r vs H Q
def PrimM (r : V → List V → Hp → VK → Prop) (o : Va → List Va → Option Va) : Prop := ∀ (R : RC) (S : Store) (H : Hp) (w0 : Va) (x : V) (ws : List Va) (vs : List V) (w : Va) (Q : VK), Rel X.K X.mg R S H → RepV X.K X.mg R w0 x → RepVs X.K X.mg R ws vs → o w0 ws = some w →
  (∀ (R' : RC) (H' : Hp) (v : V), Rel X.K X.mg R' S H' → Ext R R' H H' → RepV X.K X.mg R' w v → Q v H') → r x vs H Q
end

section
variable {X : Cx} {R0 : RC} {H0 : Hp} {W : WX} {a b c e : Expr} {es : List Expr} {fa fb fc : Evn → Store → Res Va} {ga gb : Evn → Store → Res Bool} {pos : Pos}
/-! ### names, constants -/
def fVar (i : Nat) : Evn → Store → Res Va := fun env S => match env[i]? with
  | some (.val w) => .ok w S
  | _ => .bad
theorem e_var {i : Nat} {x : Str} (hN : X.N[i]? = some x) (hv : Vis X.env.scope x) (hd : (x == ("__debug__" : Str)) = false) (hcd : (x == ("__classdict__" : Str)) = false) : OE X R0 H0 W (.Name x pos) (fVar i) := by
  refine PEi (pe_var hN hv hd hcd) fun σ H Q h => ?_
  obtain ⟨R, S, env, A, h⟩ := h
  unfold fVar at h
  cases q : env[i]? with
  | none =>
    rw [q] at h
    exact False.elim h
  | some sl =>
    rw [q] at h
    cases sl with
    | val w =>
      obtain ⟨v, h1, h2⟩ := A.val i w q
      exact ⟨v, h1, h R H v A Ext.refl h2⟩
    | no => exact False.elim h
    | own l => exact False.elim h
/-- what needs no heap -/
def fCon (w : Va) : Evn → Store → Res Va := fun _ S => .ok w S
theorem e_con {w : Va} {v : V} (h : PE X e (tC v)) (r : ∀ R, RepV X.K X.mg R w v) : OE X R0 H0 W e (fCon w) := by
  refine PEi h fun σ H Q h => ?_
  obtain ⟨R, S, env, A, h⟩ := h
  exact h R H v A Ext.refl (r R)
theorem e_int {i : Int} {j : Nat} : OE X R0 H0 W (.Constant (.int i) j pos) (fCon (.int i)) := e_con pe_int fun _ => .mkInt
theorem e_bl {i : Bool} {j : Nat} : OE X R0 H0 W (.Constant (.bool i) j pos) (fCon (.bl i)) := e_con pe_bl fun _ => .mkBl
theorem e_str {i : List Nat} {j : Nat} : OE X R0 H0 W (.Constant (.str ⟨i.toArray⟩) j pos) (fCon (.str i)) := e_con pe_str fun _ => .mkStr
theorem e_non {j : Nat} : OE X R0 H0 W (.Constant .none j pos) (fCon .non) := e_con pe_non fun _ => .mkNon

/-! ### operators -/
def f2 (o : Va → Va → Option Va) (fa fb : Evn → Store → Res Va) : Evn → Store → Res Va := fun env S => (fa env S).bind fun w1 S1 => (fb env S1).bind fun w2 S2 => lift (o w1 w2) S2
def f1 (o : Va → Option Va) (fa : Evn → Store → Res Va) : Evn → Store → Res Va := fun env S => (fa env S).bind fun w1 S1 => lift (o w1) S1
theorem op2_read {r : R2} {o : Va → Va → Option Va} (hp : Prim2 X r o) {σ : L2.St} {H : Hp} {Q : VK} (h : tG X.K X.mg R0 H0 W (repV X.K X.mg) (f2 o fa fb) σ H Q) :
    tOp r (tG X.K X.mg R0 H0 W (repV X.K X.mg) fa) (tG X.K X.mg R0 H0 W (repV X.K X.mg) fb) σ H Q := by
  obtain ⟨R, S, env, A, h⟩ := h
  refine G_bind A h fun R1 S1 H1 w1 x A1 e1 r1 h1 => ?_
  refine G_bind A1 h1 fun R2 S2 H2 w2 y A2 e2 r2 h2 => ?_
  obtain ⟨w, hw, h3⟩ := lift_wp h2
  exact hp R2 S2 H2 w1 w2 x y w Q A2.rel (r1.mono e2.r) r2 hw fun R' H' v r' e' q' => h3 R' H' v (A2.step e' r') e' q'
theorem e_op {op : Operator} {r : R2} {o : Va → Va → Option Va} (ho : OpR X (binaryOp op) r) (hp : Prim2 X r o) (ha : OE X R0 H0 W a fa) (hb : OE X R0 H0 W b fb) : OE X R0 H0 W (.BinOp a op b pos) (f2 o fa fb) :=
  PEi (pe_op ho ha hb) fun _ _ _ h => op2_read hp h
theorem e_cmp {op : CmpOp} {r : R2} {o : Va → Va → Option Va} (ho : OpR X (compareOp op) r) (hp : Prim2 X r o) (ha : OE X R0 H0 W a fa) (hb : OE X R0 H0 W b fb) (hm : behindInMarks op b = false) : OE X R0 H0 W (.Compare a [op] [b] pos) (f2 o fa fb) :=
  PEi (pe_cmpR ho ha hb hm) fun _ _ _ h => op2_read hp h
theorem e_un {op : UnaryOp} {r : V → Hp → VK → Prop} {o : Va → Option Va} (ho : UnR X (unaryOp op) r) (hp : Prim1 X r o) (ha : OE X R0 H0 W a fa) : OE X R0 H0 W (.UnaryOp op a pos) (f1 o fa) :=
  PEi (pe_un ho ha) fun σ H Q h => by
    obtain ⟨R, S, env, A, h⟩ := h
    refine G_bind A h fun R1 S1 H1 w1 x A1 e1 r1 h1 => ?_
    obtain ⟨w, hw, h3⟩ := lift_wp h1
    exact hp R1 S1 H1 w1 x w Q A1.rel r1 hw fun R' H' v r' e' q' => h3 R' H' v (A1.step e' r') e' q'
theorem e_ix {r : R2} {o : Va → Va → Option Va} (ho : IxR X r) (hp : Prim2 X r o) (ha : OE X R0 H0 W a fa) (hb : OE X R0 H0 W b fb) (hs : PlainIx b) : OE X R0 H0 W (.Subscript a b pos) (f2 o fa fb) :=
  PEi (pe_ix ho ha hb hs) fun _ _ _ h => op2_read hp h

/-! ### arguments -/
def fNil : Evn → Store → Res (List Va) := fun _ S => .ok [] S
def fCons (fa : Evn → Store → Res Va) (fr : Evn → Store → Res (List Va)) : Evn → Store → Res (List Va) := fun env S => (fa env S).bind fun w S1 => (fr env S1).bind fun ws S2 => .ok (w :: ws) S2
theorem a_nil : OA X R0 H0 W [] fNil := PAi pa_nil fun σ H Q h => by
  obtain ⟨R, S, env, A, h⟩ := h
  exact h R H [] A Ext.refl .nil
theorem a_cons {fr : Evn → Store → Res (List Va)} (ha : OE X R0 H0 W e fa) (hr : OA X R0 H0 W es fr) (hs : starEach (e :: es) X.env = (false, eval e X.env) :: starEach es X.env) : OA X R0 H0 W (e :: es) (fCons fa fr) :=
  PAi (pa_cons ha hr hs) fun σ H Q h => by
    obtain ⟨R, S, env, A, h⟩ := h
    refine G_bind A h fun R1 S1 H1 w1 x A1 e1 r1 h1 => ?_
    refine G_bind A1 h1 fun R2 S2 H2 ws xs A2 e2 r2 h2 => ?_
    exact h2 R2 H2 (x :: xs) A2 Ext.refl (.cons (r1.mono e2.r) r2)
/-- a display -/
def small (l : List Va) : Bool := decide (l.length ≤ sizeLine)
def fTup (fr : Evn → Store → Res (List Va)) : Evn → Store → Res Va := fun env S => (fr env S).bind fun ws S1 => if small ws then .ok (.tup ws) S1 else .bad
def fLst (fr : Evn → Store → Res (List Va)) : Evn → Store → Res Va := fun env S => (fr env S).bind fun ws S1 => if small ws then .ok (.lst ws) S1 else .bad
theorem ite_wp {α : Type} {c : Bool} {r : Res α} {Q : α → Store → Prop} {E : String → Option Int → Store → Prop} (h : (if c = true then r else .bad).wp Q E) : c = true ∧ r.wp Q E := by
  cases c with
  | false => exact False.elim h
  | true => exact ⟨rfl, h⟩
theorem e_tup {fr : Evn → Store → Res (List Va)} {k : Nat} (hr : OA X R0 H0 W es fr) : OE X R0 H0 W (.Tuple es k pos) (fTup fr) :=
  PEi (pe_tup hr) fun σ H Q h => by
    obtain ⟨R, S, env, A, h⟩ := h
    refine G_bind A h fun R1 S1 H1 ws xs A1 e1 r1 h1 => ?_
    obtain ⟨hz, h2⟩ := ite_wp h1
    refine ⟨by rw [RepVs.length r1]; exact of_decide_eq_true hz, fun p hp => ?_⟩
    obtain ⟨n1, n2, n3⟩ := A1.rel.newT hp r1
    exact h2 _ _ _ (A1.step n2 n1) n2 n3
theorem e_lst {fr : Evn → Store → Res (List Va)} (hr : OA X R0 H0 W es fr) : OE X R0 H0 W (.List es pos) (fLst fr) :=
  PEi (pe_lst hr) fun σ H Q h => by
    obtain ⟨R, S, env, A, h⟩ := h
    refine G_bind A h fun R1 S1 H1 ws xs A1 e1 r1 h1 => ?_
    obtain ⟨hz, h2⟩ := ite_wp h1
    refine ⟨by rw [RepVs.length r1]; exact of_decide_eq_true hz, fun p hp => ?_⟩
    obtain ⟨n1, n2, n3⟩ := A1.rel.newL hp r1
    exact h2 _ _ _ (A1.step n2 n1) n2 n3

/-! ### calls of what is built in -/
def fA (o : List Va → Option Va) (fr : Evn → Store → Res (List Va)) : Evn → Store → Res Va := fun env S => (fr env S).bind fun ws S1 => lift (o ws) S1
theorem call_read {r : List V → Hp → VK → Prop} {o : List Va → Option Va} {fr : Evn → Store → Res (List Va)} (hp : PrimA X r o) {σ : L2.St} {H : Hp} {Q : VK} (h : tG X.K X.mg R0 H0 W (repV X.K X.mg) (fA o fr) σ H Q) :
    tCB r (tG X.K X.mg R0 H0 W (repA X.K X.mg) fr) σ H Q := by
  obtain ⟨R, S, env, A, h⟩ := h
  refine G_bind A h fun R1 S1 H1 ws xs A1 e1 r1 h1 => ?_
  obtain ⟨w, hw, h3⟩ := lift_wp h1
  exact hp R1 S1 H1 ws xs w Q A1.rel r1 hw fun R' H' v r' e' q' => h3 R' H' v (A1.step e' r') e' q'
theorem e_callB {id : String} {x : Str} {p : Pos} {r : List V → Hp → VK → Prop} {o : List Va → Option Va} {fr : Evn → Store → Res (List Va)} (hc : CallR X (.builtin id) r) (hp : PrimA X r o) (hg : Gl X x) (hm : X.mg x = none) (hv : bootBuiltins x = some (.builtin id))
    (ha : OA X R0 H0 W (e :: es) fr) (hn : x ≠ "__name__") (hdb : (x == ("__debug__" : Str)) = false) (he : starEach (e :: es) X.env = (false, eval e X.env) :: starEach es X.env) (hpl : (backTo pos (starEach es X.env)).any (·.1) = false) :
    OE X R0 H0 W (.Call (.Name x p) (e :: es) [] pos) (fA o fr) :=
  PEi (pe_callB hc hg hm hv ha hn hdb he hpl) fun _ _ _ h => call_read hp h
theorem e_callTy {T : String} {x : Str} {p : Pos} {r : List V → Hp → VK → Prop} {o : List Va → Option Va} {fr : Evn → Store → Res (List Va)} (hc : CallR X (.type T) r) (hp : PrimA X r o) (hg : Gl X x) (hm : X.mg x = none) (hv : bootBuiltins x = some (.type T))
    (ha : OA X R0 H0 W (e :: es) fr) (hn : x ≠ "__name__") (hdb : (x == ("__debug__" : Str)) = false) (he : starEach (e :: es) X.env = (false, eval e X.env) :: starEach es X.env) (hpl : (backTo pos (starEach es X.env)).any (·.1) = false) :
    OE X R0 H0 W (.Call (.Name x p) (e :: es) [] pos) (fA o fr) :=
  PEi (pe_callTy hc hg hm hv ha hn hdb he hpl) fun _ _ _ h => call_read hp h
/-- a method of what is built in -/
def fM (o : Va → List Va → Option Va) (fa : Evn → Store → Res Va) (fr : Evn → Store → Res (List Va)) : Evn → Store → Res Va := fun env S => (fa env S).bind fun w S1 => (fr env S1).bind fun ws S2 => lift (o w ws) S2
/-! ### tests -/
def truth : Va → Option Bool
  | .non => some false
  | .bl b => some b
  | .int i => some (i != 0)
  | .str s => if s.length ≤ sizeLine then some ((s.length : Int) != 0) else none
  | .tup l => some (!l.isEmpty)
  | .lst l => some (!l.isEmpty)
  | .scr l => some (!l.isEmpty)
  | _ => none
theorem RepVs.empty {K : PySem.W.Frag} {mg : Str → Option Value} {R : RC} {ws : List Va} {vs : List V} (h : RepVs K mg R ws vs) : vs.isEmpty = ws.isEmpty := by
  have e := RepVs.length h
  cases ws <;> cases vs <;> first | rfl | (simp at e)
theorem truth_ok {R : RC} {S : Store} {H : Hp} {w : Va} {x : V} {b : Bool} (r : Rel X.K X.mg R S H) (h : RepV X.K X.mg R w x) (t : truth w = some b) : TruV X.K x H b := by
  cases w with
  | non => rw [h.non_]; cases t; rfl
  | bl c => rw [h.bl_]; cases t; rfl
  | int i => rw [h.int_]; cases t; rfl
  | str s =>
    rw [h.str_]
    have t : (if s.length ≤ sizeLine then some ((s.length : Int) != 0) else none) = some b := t
    by_cases hz : s.length ≤ sizeLine
    · rw [if_pos hz] at t
      cases t
      exact ⟨by show s.toArray.size ≤ sizeLine; simpa using hz, by show _ = ((s.toArray.size : Int) != 0); simp⟩
    · rw [if_neg hz] at t
      cases t
  | tup l =>
    obtain ⟨a, vs, rfl, q, rs⟩ := h.tup_
    cases t
    exact .inr (.inl ⟨vs, r.sqT q, by rw [RepVs.empty rs]⟩)
  | lst l =>
    obtain ⟨a, vs, rfl, q, rs⟩ := h.lst_
    cases t
    exact .inl ⟨vs, SqL.of (r.le _ _ q), by rw [RepVs.empty rs]⟩
  | scr l =>
    obtain ⟨a, rfl, q⟩ := h.scr_
    cases t
    exact .inl ⟨_, r.sqL q, by simp⟩
  | ref i => cases t
  | fn x => cases t
  | exc c a => cases t
  | ty n => cases t
def fTru (fa : Evn → Store → Res Va) : Evn → Store → Res Bool := fun env S => (fa env S).bind fun w S1 => lift (truth w) S1
/-- any expression, as a test -/
theorem t_truth (ha : OE X R0 H0 W a fa) (he : ∀ whole, isTrue a X.env whole = (do let v ← whole; standAt a.pos; holding [v] (truthy v))) : OT X R0 H0 W a (fTru fa) :=
  PTi (pt_truth ha he) fun σ H Q h => by
    obtain ⟨R, S, env, A, h⟩ := h
    refine G_bind A h fun R1 S1 H1 w1 x A1 e1 r1 h1 => ?_
    obtain ⟨b, hw, h3⟩ := lift_wp h1
    exact ⟨b, truth_ok A1.rel r1 hw, h3 R1 H1 b A1 Ext.refl rfl⟩
/-- a comparison, as a test -/
theorem t_cmp {op : CmpOp} {r : R2} {o : Va → Va → Option Va} (ho : OpR X (compareOp op) r) (hp : Prim2 X r o) (hbl : ∀ x y w, o x y = some w → ∃ k, w = .bl k) (ha : OE X R0 H0 W a fa) (hb : OE X R0 H0 W b fb) (hm : behindInMarks op b = false) :
    OT X R0 H0 W (.Compare a [op] [b] pos) (fTru (f2 o fa fb)) :=
  PTi (pt_cmpR ho ha hb hm) fun σ H Q h => by
    show tOp r _ _ σ H fun x H' => ∃ k, x = .bl k ∧ Q k H'
    refine op2_read (W := W) hp ?_
    obtain ⟨R, S, env, A, h⟩ := h
    refine ⟨R, S, env, A, ?_⟩
    unfold fTru at h
    rw [wp_bind] at h
    unfold f2 at h ⊢
    simp only [wp_bind] at h ⊢
    refine wp_mono h (fun w1 S1 h1 => wp_mono h1 (fun w2 S2 h2 => ?_) fun _ _ _ z => z) fun _ _ _ z => z
    obtain ⟨w, hw, h3⟩ := lift_wp h2
    obtain ⟨k, rfl⟩ := hbl _ _ _ hw
    rw [hw]
    intro R' H' v A' e' r'
    exact ⟨k, r'.bl_, h3 R' H' k A' e' rfl⟩
def fAnd (ga gb : Evn → Store → Res Bool) : Evn → Store → Res Bool := fun env S => (ga env S).bind fun c S1 => if c = true then gb env S1 else .ok false S1
def fOr (ga gb : Evn → Store → Res Bool) : Evn → Store → Res Bool := fun env S => (ga env S).bind fun c S1 => if c = true then .ok true S1 else gb env S1
def fNot (ga : Evn → Store → Res Bool) : Evn → Store → Res Bool := fun env S => (ga env S).bind fun c S1 => .ok (!c) S1
theorem and_read {σ : L2.St} {H : Hp} {Q : Bool → Hp → Prop} (h : tG X.K X.mg R0 H0 W repB (fAnd ga gb) σ H Q) : tAnd (tG X.K X.mg R0 H0 W repB ga) (tG X.K X.mg R0 H0 W repB gb) σ H Q := by
  obtain ⟨R, S, env, A, h⟩ := h
  refine G_bind A h fun R1 S1 H1 w1 c A1 e1 r1 h1 => ?_
  have r1 : c = w1 := r1
  subst r1
  cases c with
  | true => exact ⟨R1, S1, env, A1, h1⟩
  | false => exact h1 R1 H1 false A1 Ext.refl rfl
theorem or_read {σ : L2.St} {H : Hp} {Q : Bool → Hp → Prop} (h : tG X.K X.mg R0 H0 W repB (fOr ga gb) σ H Q) : tOr (tG X.K X.mg R0 H0 W repB ga) (tG X.K X.mg R0 H0 W repB gb) σ H Q := by
  obtain ⟨R, S, env, A, h⟩ := h
  refine G_bind A h fun R1 S1 H1 w1 c A1 e1 r1 h1 => ?_
  have r1 : c = w1 := r1
  subst r1
  cases c with
  | true => exact h1 R1 H1 true A1 Ext.refl rfl
  | false => exact ⟨R1, S1, env, A1, h1⟩
theorem w_one (ha : OT X R0 H0 W a ga) (op : BoolOp) : OW X R0 H0 W (.BoolOp op [a] pos) ga := by
  cases op with
  | And => exact pw_and1 ha
  | Or => exact pw_or1 ha
theorem w_and (ha : OT X R0 H0 W a ga) (hb : OW X R0 H0 W (.BoolOp .And (b :: es) pos) gb) : OW X R0 H0 W (.BoolOp .And (a :: b :: es) pos) (fAnd ga gb) :=
  PWi (pw_and ha hb) fun _ _ _ h => and_read h
theorem w_or (ha : OT X R0 H0 W a ga) (hb : OW X R0 H0 W (.BoolOp .Or (b :: es) pos) gb) : OW X R0 H0 W (.BoolOp .Or (a :: b :: es) pos) (fOr ga gb) :=
  PWi (pw_or ha hb) fun _ _ _ h => or_read h
theorem t_not (ha : OT X R0 H0 W a ga) : OT X R0 H0 W (.UnaryOp .Not a pos) (fNot ga) := PTi (pt_not ha) fun σ H Q h => by
  obtain ⟨R, S, env, A, h⟩ := h
  refine G_bind A h fun R1 S1 H1 w1 c A1 e1 r1 h1 => ?_
  have r1 : c = w1 := r1
  subst r1
  exact h1 R1 H1 _ A1 Ext.refl rfl
/-! ### and, or, not, if as values -/
def fAndV (fa fb : Evn → Store → Res Va) : Evn → Store → Res Va := fun env S => (fa env S).bind fun w S1 => match w with
  | .bl c => if c = true then fb env S1 else .ok (.bl false) S1
  | _ => .bad
def fOrV (fa fb : Evn → Store → Res Va) : Evn → Store → Res Va := fun env S => (fa env S).bind fun w S1 => match w with
  | .bl c => if c = true then .ok (.bl true) S1 else fb env S1
  | _ => .bad
def fNotV (fa : Evn → Store → Res Va) : Evn → Store → Res Va := fun env S => (fa env S).bind fun w S1 => match w with
  | .bl c => .ok (.bl (!c)) S1
  | _ => .bad
theorem bl_of {α : Type} {w : Va} {x : Bool → Res α} {Q : α → Store → Prop} {E : String → Option Int → Store → Prop} (h : (match w with | .bl c => x c | _ => .bad : Res α).wp Q E) : ∃ c, w = .bl c ∧ (x c).wp Q E := by
  cases w with
  | bl c => exact ⟨c, rfl, h⟩
  | _ => exact False.elim h
theorem e_one {op : BoolOp} (ha : OE X R0 H0 W a fa) : OE X R0 H0 W (.BoolOp op [a] pos) fa := pe_one ha
theorem e_and (ha : OE X R0 H0 W a fa) (hb : OE X R0 H0 W (.BoolOp .And (b :: es) pos) fb) : OE X R0 H0 W (.BoolOp .And (a :: b :: es) pos) (fAndV fa fb) := PEi (pe_and ha hb) fun σ H Q h => by
  obtain ⟨R, S, env, A, h⟩ := h
  refine G_bind A h fun R1 S1 H1 w1 x A1 e1 r1 h1 => ?_
  obtain ⟨c, rfl, h2⟩ := bl_of h1
  refine ⟨c, r1.bl_, ?_⟩
  cases c with
  | true => exact ⟨R1, S1, env, A1, h2⟩
  | false => exact h2 R1 H1 _ A1 Ext.refl .mkBl
theorem e_or (ha : OE X R0 H0 W a fa) (hb : OE X R0 H0 W (.BoolOp .Or (b :: es) pos) fb) : OE X R0 H0 W (.BoolOp .Or (a :: b :: es) pos) (fOrV fa fb) := PEi (pe_or ha hb) fun σ H Q h => by
  obtain ⟨R, S, env, A, h⟩ := h
  refine G_bind A h fun R1 S1 H1 w1 x A1 e1 r1 h1 => ?_
  obtain ⟨c, rfl, h2⟩ := bl_of h1
  refine ⟨c, r1.bl_, ?_⟩
  cases c with
  | true => exact h2 R1 H1 _ A1 Ext.refl .mkBl
  | false => exact ⟨R1, S1, env, A1, h2⟩
theorem e_not (ha : OE X R0 H0 W a fa) : OE X R0 H0 W (.UnaryOp .Not a pos) (fNotV fa) := PEi (pe_not ha) fun σ H Q h => by
  obtain ⟨R, S, env, A, h⟩ := h
  refine G_bind A h fun R1 S1 H1 w1 x A1 e1 r1 h1 => ?_
  obtain ⟨c, rfl, h2⟩ := bl_of h1
  exact ⟨c, r1.bl_, h2 R1 H1 _ A1 Ext.refl .mkBl⟩
def fIf (gc : Evn → Store → Res Bool) (fa fb : Evn → Store → Res Va) : Evn → Store → Res Va := fun env S => (gc env S).bind fun c S1 => if c = true then fa env S1 else fb env S1
theorem e_if {gc : Evn → Store → Res Bool} (hc : OT X R0 H0 W c gc) (ha : OE X R0 H0 W a fa) (hb : OE X R0 H0 W b fb) : OE X R0 H0 W (.IfExp c a b pos) (fIf gc fa fb) := PEi (pe_ifExp hc ha hb) fun σ H Q h => by
  obtain ⟨R, S, env, A, h⟩ := h
  refine G_bind A h fun R1 S1 H1 w1 c A1 e1 r1 h1 => ?_
  have r1 : c = w1 := r1
  subst r1
  cases c with
  | true => exact ⟨R1, S1, env, A1, h1⟩
  | false => exact ⟨R1, S1, env, A1, h1⟩
/-! ### two comparisons in a row -/
def fChain (o o' : Va → Va → Option Va) (fa fb fc : Evn → Store → Res Va) : Evn → Store → Res Va := fun env S => (fa env S).bind fun w1 S1 => (fb env S1).bind fun w2 S2 => match o w1 w2 with
  | some (.bl k) => if k = true then (fc env S2).bind fun w3 S3 => lift (o' w2 w3) S3 else .ok (.bl false) S2
  | _ => .bad
theorem some_bl {α : Type} {w : Option Va} {x : Bool → Res α} {Q : α → Store → Prop} {E : String → Option Int → Store → Prop} (h : (match w with | some (.bl c) => x c | _ => .bad : Res α).wp Q E) : ∃ c, w = some (.bl c) ∧ (x c).wp Q E := by
  cases w with
  | none => exact False.elim h
  | some w =>
    cases w with
    | bl c => exact ⟨c, rfl, h⟩
    | _ => exact False.elim h
theorem chain_read {r r' : R2} {o o' : Va → Va → Option Va} (hp : Prim2 X r o) (hp' : Prim2 X r' o') {σ : L2.St} {H : Hp} {Q : VK} (h : tG X.K X.mg R0 H0 W (repV X.K X.mg) (fChain o o' fa fb fc) σ H Q) :
    tChain r r' (tG X.K X.mg R0 H0 W (repV X.K X.mg) fa) (tG X.K X.mg R0 H0 W (repV X.K X.mg) fb) (tG X.K X.mg R0 H0 W (repV X.K X.mg) fc) σ H Q := by
  obtain ⟨R, S, env, A, h⟩ := h
  refine G_bind A h fun R1 S1 H1 w1 x A1 e1 r1 h1 => ?_
  refine G_bind A1 h1 fun R2 S2 H2 w2 y A2 e2 r2 h2 => ?_
  obtain ⟨k, hw, h3⟩ := some_bl h2
  refine hp R2 S2 H2 w1 w2 x y _ _ A2.rel (r1.mono e2.r) r2 hw fun R' H' v r' e' q' => ⟨k, q'.bl_, ?_⟩
  have A' := A2.step e' r'
  cases k with
  | false => exact h3 R' H' _ A' e' .mkBl
  | true =>
    have h3' := wp_rebase e' h3
    refine G_bind A' h3' fun R3 S3 H3 w3 z A3 e3 r3 h4 => ?_
    obtain ⟨w, hw', h5⟩ := lift_wp h4
    exact hp' R3 S3 H3 w2 w3 y z w Q A3.rel ((r2.mono e'.r).mono e3.r) r3 hw' fun R4 H4 v r4 e4 q4 => h5 R4 H4 v (A3.step e4 r4) e4 q4
theorem e_chain {op op' : CmpOp} {r r' : R2} {o o' : Va → Va → Option Va} (ho : OpR X (compareOp op) r) (ho' : OpR X (compareOp op') r') (hp : Prim2 X r o) (hp' : Prim2 X r' o') (ha : OE X R0 H0 W a fa) (hb : OE X R0 H0 W b fb) (hc : OE X R0 H0 W c fc)
    (hm : lastMarks [op, op'] [b, c] = false) : OE X R0 H0 W (.Compare a [op, op'] [b, c] pos) (fChain o o' fa fb fc) := PEi (pe_chain ho ho' ha hb hc hm) fun _ _ _ h => chain_read hp hp' h
theorem t_chain {op op' : CmpOp} {r r' : R2} {o o' : Va → Va → Option Va} (ho : OpR X (compareOp op) r) (ho' : OpR X (compareOp op') r') (hp : Prim2 X r o) (hp' : Prim2 X r' o') (hbl : ∀ x y w, o' x y = some w → ∃ k, w = .bl k) (ha : OE X R0 H0 W a fa) (hb : OE X R0 H0 W b fb) (hc : OE X R0 H0 W c fc)
    (hm : lastMarks [op, op'] [b, c] = false) : OT X R0 H0 W (.Compare a [op, op'] [b, c] pos) (fTru (fChain o o' fa fb fc)) := PTi (pt_chain ho ho' ha hb hc hm) fun σ H Q h => by
  show tChain r r' _ _ _ σ H fun x H' => ∃ k, x = .bl k ∧ Q k H'
  refine chain_read (W := W) hp hp' ?_
  obtain ⟨R, S, env, A, h⟩ := h
  refine ⟨R, S, env, A, ?_⟩
  unfold fTru at h
  rw [wp_bind] at h
  unfold fChain at h ⊢
  simp only [wp_bind] at h ⊢
  refine wp_mono h (fun w1 S1 h1 => wp_mono h1 (fun w2 S2 h2 => ?_) fun _ _ _ z => z) fun _ _ _ z => z
  obtain ⟨k, hw, h3⟩ := some_bl h2
  rw [hw]
  cases k with
  | false =>
    intro R' H' v A' e' r'
    have h4 : KV X.K X.mg R0 H0 repB R H env σ Q false S2 := h3
    exact ⟨false, r'.bl_, h4 R' H' false A' e' rfl⟩
  | true =>
    simp only [if_true] at h3 ⊢
    rw [wp_bind] at h3 ⊢
    refine wp_mono h3 (fun w3 S3 h4 => ?_) fun _ _ _ z => z
    obtain ⟨w, hw', h5⟩ := lift_wp h4
    obtain ⟨k', rfl⟩ := hbl _ _ _ hw'
    rw [hw']
    intro R' H' v A' e' r'
    exact ⟨k', r'.bl_, h5 R' H' k' A' e' rfl⟩
end
end Mi
end
section
/-! Mi, part C: statements. -/
namespace Mi
open PySem PySem.Spec L2

inductive RS where
  | nx (env : Evn) (S : Store) | rt (w : Va) (S : Store) | ex (c : String) (a : Option Int) (env : Evn) (S : Store) | bad
def RS.wp (r : RS) (N : Evn → Store → Prop) (T : Va → Store → Prop) (E : String → Option Int → Evn → Store → Prop) : Prop := match r with
  | .nx env S => N env S
  | .rt w S => T w S
  | .ex c a env S => E c a env S
  | .bad => False
def RS.andThen (r : RS) (g : Evn → Store → RS) : RS := match r with
  | .nx env S => g env S
  | .rt w S => .rt w S
  | .ex c a env S => .ex c a env S
  | .bad => .bad
def Res.toS {α : Type} (r : Res α) (env : Evn) (g : α → Store → RS) : RS := match r with
  | .ok a S => g a S
  | .ex c a S => .ex c a env S
  | .bad => .bad
theorem wps_then {r : RS} {g : Evn → Store → RS} {N : Evn → Store → Prop} {T : Va → Store → Prop} {E : String → Option Int → Evn → Store → Prop} : (r.andThen g).wp N T E = r.wp (fun env S => (g env S).wp N T E) T E := by
  cases r <;> rfl
theorem wps_toS {α : Type} {r : Res α} {env : Evn} {g : α → Store → RS} {N : Evn → Store → Prop} {T : Va → Store → Prop} {E : String → Option Int → Evn → Store → Prop} : (r.toS env g).wp N T E = r.wp (fun a S => (g a S).wp N T E) (fun c a S => E c a env S) := by
  cases r <;> rfl
theorem wps_mono {r : RS} {N N' : Evn → Store → Prop} {T T' : Va → Store → Prop} {E E' : String → Option Int → Evn → Store → Prop} (h : r.wp N T E) (hN : ∀ a S, N a S → N' a S) (hT : ∀ a S, T a S → T' a S) (hE : ∀ c a e S, E c a e S → E' c a e S) : r.wp N' T' E' := by
  cases r with
  | nx a S => exact hN a S h
  | rt a S => exact hT a S h
  | ex c a e S => exact hE c a e S h
  | bad => exact h

section
variable (K : PySem.W.Frag) (mg : Str → Option Value) (R0 : RC) (H0 : Hp) (W : WX)
def KN (R : RC) (nx : L2.St → Hp → Prop) : Evn → Store → Prop := fun env' S' => ∀ (R' : RC) (H' : Hp) (σ' : L2.St), At K mg R0 H0 R' S' H' env' σ' → RLe R R' → nx σ' H'
def KT (R : RC) (rt : VK) : Va → Store → Prop := fun w S' => ∀ (R' : RC) (H' : Hp) (v : V), Ext R0 R' H0 H' → RLe R R' → Rel K mg R' S' H' → RepV K mg R' w v → rt v H'
def KX (R : RC) : String → Option Int → Evn → Store → Prop := fun c a env' S' => ∀ (R' : RC) (H' : Hp) (σ' : L2.St) (cls : Value) (d : Option Addr), At K mg R0 H0 R' S' H' env' σ' → RLe R R' → RepX mg R' c a cls d → W cls d σ' H'
def tS (f : Evn → Store → RS) : TS := fun D σ H => ∃ (R : RC) (S : Store) (env : Evn), At K mg R0 H0 R S H env σ ∧ (f env S).wp (KN K mg R0 H0 R D.nx) (KT K mg R0 H0 R D.rt) (KX K mg R0 H0 W R)
end
section
variable {K : PySem.W.Frag} {mg : Str → Option Value} {R0 : RC} {H0 : Hp} {W : WX} {R R1 : RC}
theorem KN.rebase {nx : L2.St → Hp → Prop} {env : Evn} {S : Store} (l : RLe R R1) (h : KN K mg R0 H0 R nx env S) : KN K mg R0 H0 R1 nx env S := fun R' H' σ' A' l' => h R' H' σ' A' (l.trans l')
theorem KX.rebase {c : String} {a : Option Int} {env : Evn} {S : Store} (l : RLe R R1) (h : KX K mg R0 H0 W R c a env S) : KX K mg R0 H0 W R1 c a env S := fun R' H' σ' cls d A' l' => h R' H' σ' cls d A' (l.trans l')
theorem KT.rebase {rt : VK} {w : Va} {S : Store} (l : RLe R R1) (h : KT K mg R0 H0 R rt w S) : KT K mg R0 H0 R1 rt w S := fun R' H' v e l' r q => h R' H' v e (l.trans l') r q
theorem wps_rebase {r : RS} {nx : L2.St → Hp → Prop} {rt : VK} (l : RLe R R1) (h : r.wp (KN K mg R0 H0 R nx) (KT K mg R0 H0 R rt) (KX K mg R0 H0 W R)) : r.wp (KN K mg R0 H0 R1 nx) (KT K mg R0 H0 R1 rt) (KX K mg R0 H0 W R1) :=
  wps_mono h (fun _ _ z => z.rebase l) (fun _ _ z => z.rebase l) fun _ _ _ _ z => z.rebase l
end

section
variable {K : PySem.W.Frag} {mg : Str → Option Value} {R0 : RC} {H0 : Hp} {W : WX} {R R1 : RC} {S S1 : Store} {H H1 : Hp} {env : Evn} {σ : L2.St}
theorem At.set (A : At K mg R0 H0 R S H env σ) {w : Va} {v : V} (r : RepV K mg R w v) (i : Nat) : At K mg R0 H0 R S H (env.set i (.val w)) (σ.set i (some v)) := by
  have key : ∀ (j : Nat) (sl : Sl), (env.set i (.val w))[j]? = some sl → (j = i ∧ i < env.length ∧ sl = .val w) ∨ (j ≠ i ∧ env[j]? = some sl) := fun j sl h => by
    by_cases c : i = j
    · subst c
      by_cases hi : i < env.length
      · rw [List.getElem?_set_self hi] at h
        exact .inl ⟨rfl, hi, (Option.some.inj h).symm⟩
      · rw [List.getElem?_eq_none (by simpa using hi)] at h
        cases h
    · rw [List.getElem?_set_ne c] at h
      exact .inr ⟨fun z => c z.symm, h⟩
  refine ⟨A.ext, A.rel, by rw [List.length_set, List.length_set]; exact A.len, fun j w' h => ?_, fun j l h => ?_, fun j k l l' p h1 h2 h3 h4 => ?_⟩
  · rcases key j _ h with ⟨rfl, hi, e⟩ | ⟨c, h⟩
    · cases e
      exact ⟨v, by rw [List.getElem?_set_self (by rw [← A.len]; exact hi)], r⟩
    · obtain ⟨v', h1, h2⟩ := A.val j w' h
      exact ⟨v', by rw [List.getElem?_set_ne fun z => c z.symm]; exact h1, h2⟩
  · rcases key j _ h with ⟨_, _, e⟩ | ⟨c, h⟩
    · cases e
    · obtain ⟨p, vs, h1, h2⟩ := A.own j l h
      exact ⟨p, vs, by rw [List.getElem?_set_ne fun z => c z.symm]; exact h1, h2⟩
  · rcases key j _ h1 with ⟨_, _, e⟩ | ⟨c, h1⟩
    · cases e
    · rcases key k _ h2 with ⟨_, _, e⟩ | ⟨c', h2⟩
      · cases e
      · rw [List.getElem?_set_ne fun z => c z.symm] at h3
        rw [List.getElem?_set_ne fun z => c' z.symm] at h4
        exact A.dis j k l l' p h1 h2 h3 h4
/-- a list of the def's own -/
theorem At.setOwn (A : At K mg R0 H0 R S H env σ) {ws : List Va} {vs : List V} {p : Addr} (r : RepVs K mg R ws vs) (hp : H p = some (.lst vs)) (hg : R.G p = none) (hi : p ∉ R.ι) (h0 : H0 p = none)
    (hd : ∀ (j : Nat) (l : List Va), env[j]? = some (.own l) → σ[j]? ≠ some (some (.ref p))) (i : Nat) : At K mg R0 H0 R S H (env.set i (.own ws)) (σ.set i (some (.ref p))) := by
  have key : ∀ (j : Nat) (sl : Sl), (env.set i (.own ws))[j]? = some sl → (j = i ∧ i < env.length ∧ sl = .own ws) ∨ (j ≠ i ∧ env[j]? = some sl) := fun j sl h => by
    by_cases c : i = j
    · subst c
      by_cases hi : i < env.length
      · rw [List.getElem?_set_self hi] at h
        exact .inl ⟨rfl, hi, (Option.some.inj h).symm⟩
      · rw [List.getElem?_eq_none (by simpa using hi)] at h
        cases h
    · rw [List.getElem?_set_ne c] at h
      exact .inr ⟨fun z => c z.symm, h⟩
  refine ⟨A.ext, A.rel, by rw [List.length_set, List.length_set]; exact A.len, fun j w' h => ?_, fun j l h => ?_, fun j k l l' q h1 h2 h3 h4 => ?_⟩
  · rcases key j _ h with ⟨_, _, e⟩ | ⟨c, h⟩
    · cases e
    · obtain ⟨v', h1, h2⟩ := A.val j w' h
      exact ⟨v', by rw [List.getElem?_set_ne fun z => c z.symm]; exact h1, h2⟩
  · rcases key j _ h with ⟨rfl, hl, e⟩ | ⟨c, h⟩
    · cases e
      exact ⟨p, vs, by rw [List.getElem?_set_self (by rw [← A.len]; exact hl)], hp, r, hg, hi, h0⟩
    · obtain ⟨q, us, h1, h2⟩ := A.own j l h
      exact ⟨q, us, by rw [List.getElem?_set_ne fun z => c z.symm]; exact h1, h2⟩
  · rcases key j _ h1 with ⟨rfl, hl, _⟩ | ⟨c, g1⟩
    · rcases key k _ h2 with ⟨rfl, _, _⟩ | ⟨c', g2⟩
      · rfl
      · rw [List.getElem?_set_self (by rw [← A.len]; exact hl)] at h3
        rw [List.getElem?_set_ne fun z => c' z.symm] at h4
        have e : p = q := by
          have := Option.some.inj (Option.some.inj h3)
          cases this
          rfl
        subst e
        exact absurd h4 (hd k l' g2)
    · rcases key k _ h2 with ⟨rfl, hl, _⟩ | ⟨c', g2⟩
      · rw [List.getElem?_set_self (by rw [← A.len]; exact hl)] at h4
        rw [List.getElem?_set_ne fun z => c z.symm] at h3
        have e : p = q := by
          have := Option.some.inj (Option.some.inj h4)
          cases this
          rfl
        subst e
        exact absurd h3 (hd j l g1)
      · rw [List.getElem?_set_ne fun z => c z.symm] at h3
        rw [List.getElem?_set_ne fun z => c' z.symm] at h4
        exact A.dis j k l l' q g1 g2 h3 h4
/-- an address that is new is no one's -/
theorem At.fresh (A : At K mg R0 H0 R S H env σ) {p : Addr} (h : H p = none) : R.G p = none ∧ p ∉ R.ι ∧ H0 p = none ∧ ∀ (j : Nat) (l : List Va), env[j]? = some (.own l) → σ[j]? ≠ some (some (.ref p)) := by
  refine ⟨A.rel.gnone h, A.rel.inone h, ?_, fun j l hj z => ?_⟩
  · cases q : H0 p with
    | none => rfl
    | some o =>
      by_cases hi : p ∈ R0.ι
      · exact absurd h (A.rel.tr p (A.ext.r.ip.subset hi))
      · rw [A.ext.fr p o q hi] at h
        cases h
  · obtain ⟨q, vs, h1, h2, _⟩ := A.own j l hj
    rw [h1] at z
    cases z
    rw [h2] at h
    cases h
/-- the own list at p changes -/
theorem At.grow (A : At K mg R0 H0 R S H env σ) {i : Nat} {ws ws' : List Va} {p : Addr} {vs vs' : List V} (hs : env[i]? = some (.own ws)) (hσ : σ[i]? = some (some (.ref p))) (hp : H p = some (.lst vs)) (r : RepVs K mg R ws' vs') :
    At K mg R0 H0 R S (upd H p (.lst vs')) (env.set i (.own ws')) σ := by
  obtain ⟨q, us, e1, e2, _, hg, hi, h0⟩ := A.own i ws hs
  rw [hσ] at e1
  cases e1
  have hil : i < env.length := (List.getElem?_eq_some_iff.mp hs).1
  have rel' : Rel K mg R S (upd H p (.lst vs')) := by
    refine ⟨fun a o e => ?_, A.rel.len, A.rel.nd, fun a ha => ?_, fun j o a h1 h2 => ?_⟩
    · rw [upd_ne (fun z => by rw [z, hg] at e; cases e)]
      exact A.rel.le a o e
    · by_cases c : a = p
      · subst c
        exact absurd ha hi
      · rw [upd_ne c]
        exact A.rel.tr a ha
    · have c : a ≠ p := fun z => hi (z ▸ List.mem_of_getElem? h2)
      exact (A.rel.cell j o a h1 h2).keep (RLe.refl R) (upd_ne c) fun z => z
  have ext' : Ext R0 R H0 (upd H p (.lst vs')) := by
    refine ⟨A.ext.r, fun a o e ha => ?_, A.ext.gn, A.ext.inw⟩
    rw [upd_ne (fun z => by rw [z, h0] at e; cases e)]
    exact A.ext.fr a o e ha
  have key : ∀ (j : Nat) (sl : Sl), (env.set i (.own ws'))[j]? = some sl → (j = i ∧ sl = .own ws') ∨ (j ≠ i ∧ env[j]? = some sl) := fun j sl h => by
    by_cases c : i = j
    · subst c
      rw [List.getElem?_set_self hil] at h
      exact .inl ⟨rfl, (Option.some.inj h).symm⟩
    · rw [List.getElem?_set_ne c] at h
      exact .inr ⟨fun z => c z.symm, h⟩
  have own0 : ∀ (j : Nat) (l : List Va), (env.set i (.own ws'))[j]? = some (.own l) → ∃ l', env[j]? = some (.own l') := fun j l h => by
    rcases key j _ h with ⟨rfl, _⟩ | ⟨_, h⟩
    · exact ⟨ws, hs⟩
    · exact ⟨l, h⟩
  refine ⟨ext', rel', by rw [List.length_set]; exact A.len, fun j w h => ?_, fun j l h => ?_, fun j k l l' q h1 h2 h3 h4 => ?_⟩
  · rcases key j _ h with ⟨_, e⟩ | ⟨_, h⟩
    · cases e
    · exact A.val j w h
  · rcases key j _ h with ⟨rfl, e⟩ | ⟨c, h⟩
    · cases e
      exact ⟨p, vs', hσ, upd_same, r, hg, hi, h0⟩
    · obtain ⟨q, us, h1, h2, h3, h4⟩ := A.own j l h
      refine ⟨q, us, h1, ?_, h3, h4⟩
      rw [upd_ne fun z => c (A.dis j i l ws p h hs (by rw [← z]; exact h1) hσ)]
      exact h2
  · obtain ⟨m, h1⟩ := own0 j l h1
    obtain ⟨m', h2⟩ := own0 k l' h2
    exact A.dis j k m m' q h1 h2 h3 h4
/-- an own list is data from now on -/
def frz (i : Nat) (env : Evn) : Evn := match env[i]? with
  | some (.own l) => env.set i (.val (.lst l))
  | _ => env
theorem At.frz (A : At K mg R0 H0 R S H env σ) (i : Nat) : ∃ R', At K mg R0 H0 R' S H (frz i env) σ ∧ RLe R R' := by
  unfold Mi.frz
  cases q : env[i]? with
  | none => exact ⟨R, A, RLe.refl R⟩
  | some sl =>
    cases sl with
    | no => exact ⟨R, A, RLe.refl R⟩
    | val w => exact ⟨R, A, RLe.refl R⟩
    | own l =>
      obtain ⟨p, vs, e1, e2, e3, hg, hi, h0⟩ := A.own i l q
      have hil : i < env.length := (List.getElem?_eq_some_iff.mp q).1
      have l1 : RLe R (R.add p (.lst vs)) := RLe.add hg
      have rel' : Rel K mg (R.add p (.lst vs)) S H := by
        refine ⟨fun a o e => ?_, A.rel.len, A.rel.nd, A.rel.tr, fun j o a h1 h2 => ?_⟩
        · have e : upd R.G p (.lst vs) a = some o := e
          by_cases c : a = p
          · subst c
            rw [upd_same] at e
            cases e
            exact e2
          · rw [upd_ne c] at e
            exact A.rel.le a o e
        · have c : a ≠ p := fun z => hi (z ▸ List.mem_of_getElem? h2)
          exact (A.rel.cell j o a h1 h2).keep l1 rfl fun z => by
            show upd R.G p (.lst vs) a = none
            rw [upd_ne c]
            exact z
      have ext' : Ext R0 (R.add p (.lst vs)) H0 H := by
        refine ⟨A.ext.r.trans l1, A.ext.fr, fun a o e => ?_, A.ext.inw⟩
        have e : upd R.G p (.lst vs) a = some o := e
        by_cases c : a = p
        · subst c
          exact .inr (.inl h0)
        · rw [upd_ne c] at e
          exact A.ext.gn a o e
      have key : ∀ (j : Nat) (sl : Sl), (env.set i (.val (.lst l)))[j]? = some sl → (j = i ∧ sl = .val (.lst l)) ∨ (j ≠ i ∧ env[j]? = some sl) := fun j sl h => by
        by_cases c : i = j
        · subst c
          rw [List.getElem?_set_self hil] at h
          exact .inl ⟨rfl, (Option.some.inj h).symm⟩
        · rw [List.getElem?_set_ne c] at h
          exact .inr ⟨fun z => c z.symm, h⟩
      refine ⟨R.add p (.lst vs), ⟨ext', rel', by rw [List.length_set]; exact A.len, fun j w h => ?_, fun j m h => ?_, fun j k m m' q' h1 h2 h3 h4 => ?_⟩, l1⟩
      · rcases key j _ h with ⟨rfl, e⟩ | ⟨_, h⟩
        · cases e
          refine ⟨_, e1, ?_⟩
          unfold RepV
          exact ⟨p, vs, rfl, upd_same, e3.mono l1⟩
        · obtain ⟨v, h1, h2⟩ := A.val j w h
          exact ⟨v, h1, h2.mono l1⟩
      · rcases key j _ h with ⟨_, e⟩ | ⟨c, h⟩
        · cases e
        · obtain ⟨q', us, h1, h2, h3, h4, h5⟩ := A.own j m h
          refine ⟨q', us, h1, h2, h3.mono l1, ?_, h5⟩
          show upd R.G p (.lst vs) q' = none
          rw [upd_ne fun z => c (A.dis j i m l p h q (by rw [← z]; exact h1) e1)]
          exact h4
      · rcases key j _ h1 with ⟨_, e⟩ | ⟨_, h1⟩
        · cases e
        · rcases key k _ h2 with ⟨_, e⟩ | ⟨_, h2⟩
          · cases e
          · exact A.dis j k m m' q' h1 h2 h3 h4
end

section
variable {X : Cx}
variable (X) (R0 : RC) (H0 : Hp) (W : WX)
abbrev OS (st : Stmt) (f : Evn → Store → RS) : Prop := PS X st (tS X.K X.mg R0 H0 W f)
abbrev OSs (st : List Stmt) (f : Evn → Store → RS) : Prop := PSs X st (tS X.K X.mg R0 H0 W f)
end
section
variable {X : Cx} {R0 : RC} {H0 : Hp} {W : WX} {a b c e : Expr} {es : List Expr} {fa fb fc fe : Evn → Store → Res Va} {ga gb gc : Evn → Store → Res Bool} {pos : Pos} {st : Stmt} {sts rest : List Stmt} {f g : Evn → Store → RS}
/-- an expression within a statement: from here to behind it -/
theorem S_bind {α β : Type} {rep : RC → α → β → Prop} {K : PySem.W.Frag} {mg : Str → Option Value} {R : RC} {S : Store} {H : Hp} {env : Evn} {σ : L2.St} {fx : Evn → Store → Res α} {g : α → Store → RS} {T : β → Hp → Prop} {nx : L2.St → Hp → Prop} {rt : VK}
    (A : At K mg R0 H0 R S H env σ) (h : ((fx env S).toS env g).wp (KN K mg R0 H0 R nx) (KT K mg R0 H0 R rt) (KX K mg R0 H0 W R))
    (k : ∀ (R1 : RC) (S1 : Store) (H1 : Hp) (w : α) (v : β), At K mg R0 H0 R1 S1 H1 env σ → Ext R R1 H H1 → rep R1 w v → (g w S1).wp (KN K mg R0 H0 R1 nx) (KT K mg R0 H0 R1 rt) (KX K mg R0 H0 W R1) → T v H1) : tG K mg R0 H0 W rep fx σ H T := by
  rw [wps_toS] at h
  refine ⟨R, S, env, A, wp_mono h (fun w S1 h1 R1 H1 v A1 e1 r1 => k R1 S1 H1 w v A1 e1 r1 (wps_rebase e1.r h1)) fun c a S1 h1 R1 H1 cls d A1 l rx => h1 R1 H1 σ cls d A1 l rx⟩
def sSkip : Evn → Store → RS := fun env S => .nx env S
def sSeq (f g : Evn → Store → RS) : Evn → Store → RS := fun env S => (f env S).andThen g
theorem ss_nil : OSs X R0 H0 W [] sSkip := PSsi pss_nil fun D σ H h => by
  obtain ⟨R, S, env, A, h⟩ := h
  exact h R H σ A (RLe.refl R)
theorem s_pass : OS X R0 H0 W (.Pass pos) sSkip := PSi ps_pass fun D σ H h => by
  obtain ⟨R, S, env, A, h⟩ := h
  exact h R H σ A (RLe.refl R)
theorem ss_cons (h1 : OS X R0 H0 W st f) (h2 : OSs X R0 H0 W rest g) : OSs X R0 H0 W (st :: rest) (sSeq f g) := PSsi (pss_cons h1 h2) fun D σ H h => by
  obtain ⟨R, S, env, A, h⟩ := h
  unfold sSeq at h
  rw [wps_then] at h
  exact ⟨R, S, env, A, wps_mono h (fun env' S' hn R' H' σ' A' l => ⟨R', S', env', A', wps_rebase l hn⟩) (fun _ _ z => z) fun _ _ _ _ z => z⟩
theorem ss_one (h1 : OS X R0 H0 W st f) : OSs X R0 H0 W [st] f := pss_one h1
/-- a slot's own list is data from here on -/
def sFrz (i : Nat) (f : Evn → Store → RS) : Evn → Store → RS := fun env S => f (frz i env) S
theorem s_frz {i : Nat} (h : OS X R0 H0 W st f) : OS X R0 H0 W st (sFrz i f) := PSi h fun D σ H q => by
  obtain ⟨R, S, env, A, q⟩ := q
  obtain ⟨R', A', l⟩ := A.frz i
  exact ⟨R', S, _, A', wps_rebase l q⟩
def sAsg (i : Nat) (fe : Evn → Store → Res Va) : Evn → Store → RS := fun env S => (fe env S).toS env fun w S1 => .nx (env.set i (.val w)) S1
theorem asg_read {i : Nat} {D : Ends} {σ : L2.St} {H : Hp} (h : tS X.K X.mg R0 H0 W (sAsg i fe) D σ H) : tAsg (tG X.K X.mg R0 H0 W (repV X.K X.mg) fe) (gName i) D σ H := by
  obtain ⟨R, S, env, A, h⟩ := h
  exact S_bind A h fun R1 S1 H1 w v A1 e1 r1 h1 => h1 R1 H1 _ (A1.set r1 i) (RLe.refl R1)
theorem s_asg {i : Nat} {x : Str} {pos' : Pos} (hN : X.N.Nodup) (hi : X.N[i]? = some x) (hx : Loc X.env.scope x) (he : OE X R0 H0 W e fe) (hs : swapsWith e (some (.Name x pos')) pos.line X.env = pure false) (hf : X.fn x = true) :
    OS X R0 H0 W (.Assign [.Name x pos'] e pos) (sAsg i fe) := PSi (ps_set hN hi hx he hs (.inl hf)) fun _ _ _ h => asg_read h
def sExpr (fe : Evn → Store → Res Va) : Evn → Store → RS := fun env S => (fe env S).toS env fun _ S1 => .nx env S1
theorem s_expr (he : OE X R0 H0 W e fe) (hs : swapsWith e none pos.line X.env = pure false) : OS X R0 H0 W (.Expr e pos) (sExpr fe) := PSi (ps_expr he hs) fun D σ H h => by
  obtain ⟨R, S, env, A, h⟩ := h
  exact S_bind A h fun R1 S1 H1 w v A1 e1 r1 h1 => h1 R1 H1 σ A1 (RLe.refl R1)
def sRet (fe : Evn → Store → Res Va) : Evn → Store → RS := fun env S => (fe env S).toS env fun w S1 => .rt w S1
theorem s_ret (he : OE X R0 H0 W e fe) : OS X R0 H0 W (.Return (some e) pos) (sRet fe) := PSi (ps_ret he) fun D σ H h => by
  obtain ⟨R, S, env, A, h⟩ := h
  exact S_bind A h fun R1 S1 H1 w v A1 e1 r1 h1 => h1 R1 H1 v A1.ext (RLe.refl R1) A1.rel r1
def sRetN : Evn → Store → RS := fun _ S => .rt .non S
theorem s_retN : OS X R0 H0 W (.Return none pos) sRetN := PSi ps_retN fun D σ H h => by
  obtain ⟨R, S, env, A, h⟩ := h
  exact h R H _ A.ext (RLe.refl R) A.rel .mkNon
def sIf (gc : Evn → Store → Res Bool) (f g : Evn → Store → RS) : Evn → Store → RS := fun env S => (gc env S).toS env fun k S1 => if k = true then f env S1 else g env S1
theorem s_if {t u : List Stmt} (hc : OT X R0 H0 W c gc) (ht : OSs X R0 H0 W t f) (hu : OSs X R0 H0 W u g) : OS X R0 H0 W (.If c t u pos) (sIf gc f g) := PSi (ps_if hc ht hu) fun D σ H h => by
  obtain ⟨R, S, env, A, h⟩ := h
  refine S_bind A h fun R1 S1 H1 w v A1 e1 r1 h1 => ?_
  have r1 : v = w := r1
  subst r1
  cases v with
  | true => exact ⟨R1, S1, env, A1, h1⟩
  | false => exact ⟨R1, S1, env, A1, h1⟩
/-- while: at most so many turns -/
def sWhile (gc : Evn → Store → Res Bool) (f : Evn → Store → RS) : Nat → Evn → Store → RS
  | 0, _, _ => .bad
  | n + 1, env, S => (gc env S).toS env fun k S1 => if k = true then (f env S1).andThen (sWhile gc f n) else .nx env S1
theorem s_while {body : List Stmt} {n : Nat} (hp : PassesOwn (model X.prog X.w) X.A X.env X.xe) (hc : OT X R0 H0 W c gc) (hb : OSs X R0 H0 W body f) : OS X R0 H0 W (.While c body [] pos) (sWhile gc f n) := PSi (ps_while hp hc hb) fun D σ H h => by
  obtain ⟨R, S, env, A, h⟩ := h
  refine ⟨fun m σ H => ∃ (R : RC) (S : Store) (env : Evn), At X.K X.mg R0 H0 R S H env σ ∧ (sWhile gc f m env S).wp (KN X.K X.mg R0 H0 R D.nx) (KT X.K X.mg R0 H0 R D.rt) (KX X.K X.mg R0 H0 W R), ⟨n, R, S, env, A, h⟩, ?_⟩
  rintro m σ H ⟨R, S, env, A, h⟩
  cases m with
  | zero => exact False.elim h
  | succ m =>
    refine S_bind A h fun R1 S1 H1 w v A1 e1 r1 h1 => ?_
    have r1 : v = w := r1
    subst r1
    cases v with
    | false => exact h1 R1 H1 σ A1 (RLe.refl R1)
    | true =>
      refine ⟨fun σ H => ∃ (R : RC) (S : Store) (env : Evn), At X.K X.mg R0 H0 R S H env σ ∧ (sWhile gc f m env S).wp (KN X.K X.mg R0 H0 R D.nx) (KT X.K X.mg R0 H0 R D.rt) (KX X.K X.mg R0 H0 W R), fun σ' H' q => ⟨m, Nat.lt_succ_self m, q⟩, ?_⟩
      have h1 : ((f env S1).andThen (sWhile gc f m)).wp _ _ _ := h1
      rw [wps_then] at h1
      exact ⟨R1, S1, env, A1, wps_mono h1 (fun env' S' hn R' H' σ' A' l => ⟨R', S', env', A', wps_rebase l hn⟩) (fun _ _ z => z) fun _ _ _ _ z => z⟩

/-! ### what a loop walks -/
/-- the values of an iterable; the target takes each -/
def forL (bind : Va → Evn → Option Evn) (f : Evn → Store → RS) : List Va → Evn → Store → RS
  | [], env, S => .nx env S
  | w :: ws, env, S => match bind w env with
    | some env1 => (f env1 S).andThen (forL bind f ws)
    | none => .bad
def sFor (it : Evn → Store → Res (List Va)) (bind : Va → Evn → Option Evn) (f : Evn → Store → RS) : Evn → Store → RS := fun env S => (it env S).toS env fun ws S1 => forL bind f ws env S1
/-- a target: what it does to the slots -/
def TgtOk (X : Cx) (R0 : RC) (H0 : Hp) (g : TG) (bind : Va → Evn → Option Evn) : Prop := ∀ (R : RC) (S : Store) (H : Hp) (env env1 : Evn) (σ : L2.St) (w : Va) (v : V) (Q : L2.St → Hp → Prop), At X.K X.mg R0 H0 R S H env σ → RepV X.K X.mg R w v → bind w env = some env1 →
  (∀ σ', At X.K X.mg R0 H0 R S H env1 σ' → Q σ' H) → g v σ H Q
/-- an iterable: from turn i on it gives ws.drop i -/
structure IterOk (X : Cx) (R0 : RC) (H0 : Hp) (W : WX) (wi : TI) (it : Evn → Store → Res (List Va)) : Prop where
  run : ∀ (R : RC) (S : Store) (H : Hp) (env : Evn) (σ : L2.St) (T : It → Hp → Prop), At X.K X.mg R0 H0 R S H env σ →
    (it env S).wp (fun ws S1 => ∀ (J : It) (R1 : RC) (H1 : Hp), At X.K X.mg R0 H0 R1 S1 H1 env σ → Ext R R1 H H1 →
      (∀ (R2 : RC) (S2 : Store) (H2 : Hp) (i : Nat), RLe R1 R2 → Rel X.K X.mg R2 S2 H2 →
        (ws.length ≤ i → J.stop i H2) ∧ (∀ w, ws[i]? = some w → J.go i H2 ∧ ∀ x H3, J.yld i H2 x H3 → ∃ R3, Rel X.K X.mg R3 S2 H3 ∧ Ext R2 R3 H2 H3 ∧ RepV X.K X.mg R3 w x)) → T J H1)
      (KE X.K X.mg R0 H0 W R env σ) → wi σ H T
theorem for_read {wi : TI} {tg : TG} {it : Evn → Store → Res (List Va)} {bind : Va → Evn → Option Evn} (hi : IterOk X R0 H0 W wi it) (ht : TgtOk X R0 H0 tg bind) {D : Ends} {σ : L2.St} {H : Hp} (h : tS X.K X.mg R0 H0 W (sFor it bind f) D σ H) :
    tFor wi tg (tS X.K X.mg R0 H0 W f) D σ H := by
  obtain ⟨R, S, env, A, h⟩ := h
  unfold sFor at h
  rw [wps_toS] at h
  refine hi.run R S H env σ _ A (wp_mono h (fun ws S1 h1 J R1 H1 A1 e1 hJ => ?_) fun c a S1 h1 R1 H1 cls d A1 l rx => h1 R1 H1 σ cls d A1 l rx)
  refine ⟨fun i m σ H => m = ws.length - i ∧ i ≤ ws.length ∧ ∃ (R : RC) (S : Store) (env : Evn), At X.K X.mg R0 H0 R S H env σ ∧ RLe R1 R ∧ (forL bind f (ws.drop i) env S).wp (KN X.K X.mg R0 H0 R D.nx) (KT X.K X.mg R0 H0 R D.rt) (KX X.K X.mg R0 H0 W R), ⟨ws.length, by simp, Nat.zero_le _, R1, S1, env, A1, RLe.refl _, wps_rebase e1.r h1⟩, ?_⟩
  rintro i m σ2 H2 ⟨rfl, hil, R2, S2, env2, A2, l2, h2⟩
  obtain ⟨j1, j2⟩ := hJ R2 S2 H2 i l2 A2.rel
  by_cases hlt : i < ws.length
  · have eg : ws[i]? = some ws[i] := List.getElem?_eq_getElem hlt
    obtain ⟨hgo, hy⟩ := j2 _ eg
    rw [List.drop_eq_getElem_cons hlt] at h2
    have h2 : (match bind ws[i] env2 with | some env1 => (f env1 S2).andThen (forL bind f (ws.drop (i + 1))) | none => .bad : RS).wp _ _ _ := h2
    refine .inr ⟨hgo, fun σ' H' => ∃ (R : RC) (S : Store) (env : Evn), At X.K X.mg R0 H0 R S H' env σ' ∧ RLe R1 R ∧ (forL bind f (ws.drop (i + 1)) env S).wp (KN X.K X.mg R0 H0 R D.nx) (KT X.K X.mg R0 H0 R D.rt) (KX X.K X.mg R0 H0 W R), fun σ' H' q => ⟨_, by omega, rfl, hlt, q⟩, fun x H3 hx => ?_⟩
    obtain ⟨R3, r3, e3, q3⟩ := hy x H3 hx
    cases hb : bind ws[i] env2 with
    | none =>
      rw [hb] at h2
      exact False.elim h2
    | some env3 =>
      rw [hb] at h2
      have h2 : ((f env3 S2).andThen (forL bind f (ws.drop (i + 1)))).wp _ _ _ := wps_rebase e3.r h2
      rw [wps_then] at h2
      refine ht R3 S2 H3 env2 env3 σ2 _ x _ (A2.step e3 r3) q3 hb fun σ4 A4 => ?_
      exact ⟨R3, S2, env3, A4, wps_mono h2 (fun env' S' hn R' H' σ' A' l => ⟨R', S', env', A', (l2.trans e3.r).trans l, wps_rebase l hn⟩) (fun _ _ z => z) fun _ _ _ _ z => z⟩
  · have e : i = ws.length := by omega
    subst e
    rw [List.drop_length] at h2
    exact .inl ⟨j1 (Nat.le_refl _), h2 R2 H2 σ2 A2 (RLe.refl R2)⟩
end
end Mi
end
section
/-! Mi, part D: what loops walk, targets, comprehensions. -/
namespace Mi
open PySem PySem.Spec PyProof.Rows L2

/-! ### iterables -/
def items : Va → Option (List Va)
  | .lst l => some l
  | .tup l => some l
  | .scr l => some (l.map .int)
  | .str s => some (s.map fun c => .str [c])
  | _ => none
/-- the iterator of a value -/
inductive ItOf (K : PySem.W.Frag) (H : Hp) : V → It → Prop where
  | l {a : Addr} {xs : List V} (h : SqL K H a xs) : ItOf K H (.ref a) (Itl K a)
  | t {a : Addr} {xs : List V} (h : SqT K H a xs) : ItOf K H (.ref a) (Itt K a)
  | s {x : Str} : ItOf K H (.str x) (Its x)
def iAny (K : PySem.W.Frag) (te : TE) : TI := fun σ H R => te σ H fun x H1 => ∃ J, ItOf K H1 x J ∧ R J H1
theorem pi_any {X : Cx} {tg e : Expr} {te : TE} (he : PE X e te) : PI X tg e (iAny X.K te) := by
  refine ⟨fun pins s σ H R I h => thn (he.run pins s σ H _ I h) fun v s1 hv => ?_⟩
  obtain ⟨x, H1, I1, r1, J, hJ, q⟩ := hv
  cases hJ with
  | l hq =>
    have ev : v = Value.ref _ := r1
    subst ev
    obtain ⟨its, rv, p, hz⟩ := I1.list hq
    exact wpAny_pyIter_list p.isList (pi_one (tk := s1.toks) I1 _ (turn_list _ _) ⟨_, Heap.get?_push_size _ rfl, rfl, rfl⟩ q)
  | t hq =>
    have ev : v = Value.ref _ := r1
    subst ev
    obtain ⟨its, rv, p, hz⟩ := I1.tuple hq
    exact wpAny_pyIter_tuple (show s1.heap.IsTuple _ its.toArray from p) (pi_one (tk := s1.toks) I1 _ (turn_tuple _ _) ⟨_, Heap.get?_push_size _ rfl, rfl, rfl⟩ q)
  | @s y =>
    obtain ⟨t, rfl⟩ := r1
    cases ha : y.cps.all (· < 128)
    · exact wpAny_pyIter_wide ha (pi_one (tk := s1.toks) I1 _ (turn_str _ y t "str_iterator" (.inr rfl)) ⟨_, Heap.get?_push_size _ rfl, rfl, rfl⟩ q)
    · exact wpAny_pyIter_ascii ha (pi_one (tk := s1.toks) I1 _ (turn_str _ y t "str_ascii_iterator" (.inl rfl)) ⟨_, Heap.get?_push_size _ rfl, rfl, rfl⟩ q)
section
variable {X : Cx} {R0 : RC} {H0 : Hp} {W : WX} {a b c e : Expr} {es : List Expr} {fa fb fc fe : Evn → Store → Res Va} {pos : Pos}
def fIt (fe : Evn → Store → Res Va) : Evn → Store → Res (List Va) := fun env S => (fe env S).bind fun w S1 => lift (items w) S1
theorem rdl {K : PySem.W.Frag} {mg : Str → Option Value} {R : RC} {S : Store} {H : Hp} (r : Rel K mg R S H) {a : Addr} {vs xs : List V} (hg : R.G a = some (.lst vs)) (h : SqL K H a xs) (inj : ∀ ys zs, SqL K H a ys → SqL K H a zs → ys = zs) : xs = vs := inj _ _ h (SqL.of (r.le _ _ hg))
theorem it_any : IterOk X R0 H0 W (iAny X.K (tG X.K X.mg R0 H0 W (repV X.K X.mg) fe)) (fIt fe) := by
  refine ⟨fun R S H env σ T A h => ?_⟩
  unfold fIt at h
  rw [wp_bind] at h
  refine ⟨R, S, env, A, wp_mono h (fun w S1 h1 R1 H1 v A1 e1 r1 => ?_) fun _ _ _ z => z⟩
  obtain ⟨ws, hws, h2⟩ := lift_wp h1
  cases w with
  | lst l =>
    cases hws
    obtain ⟨p, vs, rfl, hg, rs⟩ := r1.lst_
    refine ⟨Itl X.K p, .l (SqL.of (A1.rel.le _ _ hg)), h2 _ R1 H1 A1 e1 fun R2 S2 H2 i l2 A2 => ⟨fun hi => ?_, fun w hw => ?_⟩⟩
    · exact ⟨vs, SqL.of (A2.le _ _ (l2.le _ _ hg)), by rw [RepVs.length rs]; exact hi⟩
    · obtain ⟨x, hx, rx⟩ := rs.get hw
      refine ⟨⟨vs, x, SqL.of (A2.le _ _ (l2.le _ _ hg)), hx⟩, fun y H3 hy => ?_⟩
      obtain ⟨rfl, hy⟩ := hy
      have ey := hy vs (SqL.of (A2.le _ _ (l2.le _ _ hg)))
      rw [hx] at ey
      cases ey
      exact ⟨R2, A2, Ext.refl, rx.mono l2⟩
  | tup l =>
    cases hws
    obtain ⟨p, vs, rfl, hg, rs⟩ := r1.tup_
    refine ⟨Itt X.K p, .t (A1.rel.sqT hg), h2 _ R1 H1 A1 e1 fun R2 S2 H2 i l2 A2 => ⟨fun hi => ?_, fun w hw => ?_⟩⟩
    · exact ⟨vs, A2.sqT (l2.t hg), by rw [RepVs.length rs]; exact hi⟩
    · obtain ⟨x, hx, rx⟩ := rs.get hw
      refine ⟨⟨vs, x, A2.sqT (l2.t hg), hx⟩, fun y H3 hy => ?_⟩
      obtain ⟨rfl, hy⟩ := hy
      have ey := hy vs (A2.sqT (l2.t hg))
      rw [hx] at ey
      cases ey
      exact ⟨R2, A2, Ext.refl, rx.mono l2⟩
  | scr l =>
    cases hws
    obtain ⟨p, rfl, hg⟩ := r1.scr_
    refine ⟨Itl X.K p, .l (A1.rel.sqL hg), h2 _ R1 H1 A1 e1 fun R2 S2 H2 i l2 A2 => ⟨fun hi => ?_, fun w hw => ?_⟩⟩
    · exact ⟨l.map V.int, A2.sqL (l2.l hg), by rw [List.length_map] at hi ⊢; exact hi⟩
    · obtain ⟨n, hn, e⟩ : ∃ n, l[i]? = some n ∧ Va.int n = w := by
        rw [List.getElem?_map] at hw
        cases q : l[i]? with
        | none => rw [q] at hw; cases hw
        | some n => rw [q] at hw; exact ⟨n, rfl, Option.some.inj hw⟩
      subst e
      have hx : (l.map V.int)[i]? = some (.int n) := by rw [List.getElem?_map, hn] <;> rfl
      refine ⟨⟨l.map V.int, _, A2.sqL (l2.l hg), hx⟩, fun y H3 hy => ?_⟩
      obtain ⟨rfl, hy⟩ := hy
      have ey := hy _ (A2.sqL (l2.l hg))
      rw [hx] at ey
      cases ey
      exact ⟨R2, A2, Ext.refl, .mkInt⟩
  | str x =>
    cases hws
    rw [r1.str_]
    refine ⟨Its ⟨x.toArray⟩, .s, h2 _ R1 H1 A1 e1 fun R2 S2 H2 i l2 A2 => ⟨fun hi => ?_, fun w hw => ?_⟩⟩
    · rw [List.length_map] at hi
      show x.toArray.size ≤ i
      simpa using hi
    · rw [List.getElem?_map] at hw
      cases q : x[i]? with
      | none => rw [q] at hw; cases hw
      | some n =>
        rw [q] at hw
        cases hw
        have q2 : x.toArray[i]? = some n := by rw [List.getElem?_toArray]; exact q
        refine ⟨(Array.getElem?_eq_some_iff.mp q2).1, fun y H3 hy => ?_⟩
        obtain ⟨rfl, c, hc, rfl⟩ := hy
        have hc : x.toArray[i]? = some c := hc
        rw [q2] at hc
        cases hc
        exact ⟨R2, A2, Ext.refl, .mkStr⟩
  | _ => cases hws
/-- range -/
def upto (lo c : Int) (n : Nat) : List Va := (List.range n).map fun (k : Nat) => .int (lo + (k : Int) * c)
theorem upto_get {lo c : Int} {n i : Nat} {w : Va} (h : (upto lo c n)[i]? = some w) : i < n ∧ w = .int (lo + (i : Int) * c) := by
  unfold upto at h
  rw [List.getElem?_map] at h
  cases q : (List.range n)[i]? with
  | none => rw [q] at h; cases h
  | some k =>
    rw [q] at h
    obtain ⟨h1, h2⟩ := List.getElem?_eq_some_iff.mp q
    rw [List.getElem_range] at h2
    rw [List.length_range] at h1
    subst h2
    exact ⟨h1, (Option.some.inj h).symm⟩
theorem upto_len {lo c : Int} {n : Nat} : (upto lo c n).length = n := by unfold upto; rw [List.length_map, List.length_range]
def rng (ws : List Va) : Option (List Va) := match ws with
  | [.int j] => if -4611686018427387904 ≤ j ∧ j < 4611686018427387904 then some (upto 0 1 j.toNat) else none
  | [.int i, .int j] => if -4611686018427387904 ≤ i ∧ i < 4611686018427387904 ∧ -4611686018427387904 ≤ j ∧ j < 4611686018427387904 then some (upto i 1 (j - i).toNat) else none
  | [.int i, .int j, .int c] => if 0 < c ∧ c < 1073741824 ∧ -4611686018427387904 ≤ i ∧ i < 4611686018427387904 ∧ -4611686018427387904 ≤ j ∧ j < 4611686018427387904 then some (upto i c (if i < j then ((j - i - 1) / c).toNat + 1 else 0)) else none
  | _ => none
def fRng (fr : Evn → Store → Res (List Va)) : Evn → Store → Res (List Va) := fun env S => (fr env S).bind fun ws S1 => lift (rng ws) S1
theorem ints1 {R : RC} {K : PySem.W.Frag} {mg : Str → Option Value} {i : Int} {vs : List V} (h : RepVs K mg R [.int i] vs) : vs = [.int i] := by
  unfold RepVs at h
  obtain ⟨v, r, rfl, h1, h2⟩ := h
  unfold RepVs at h2
  rw [h1.int_, h2]
theorem ints2 {R : RC} {K : PySem.W.Frag} {mg : Str → Option Value} {i j : Int} {vs : List V} (h : RepVs K mg R [.int i, .int j] vs) : vs = [.int i, .int j] := by
  unfold RepVs at h
  obtain ⟨v, r, rfl, h1, h2⟩ := h
  rw [h1.int_, ints1 h2]
theorem ints3 {R : RC} {K : PySem.W.Frag} {mg : Str → Option Value} {i j k : Int} {vs : List V} (h : RepVs K mg R [.int i, .int j, .int k] vs) : vs = [.int i, .int j, .int k] := by
  unfold RepVs at h
  obtain ⟨v, r, rfl, h1, h2⟩ := h
  rw [h1.int_, ints2 h2]
theorem range_turns {K : PySem.W.Frag} {mg : Str → Option Value} {R2 : RC} {S2 : Store} {H2 : Hp} {lo : Int} {n i : Nat} (A2 : Rel K mg R2 S2 H2) :
    ((upto lo 1 n).length ≤ i → (Itr lo n).stop i H2) ∧ (∀ w, (upto lo 1 n)[i]? = some w → (Itr lo n).go i H2 ∧ ∀ x H3, (Itr lo n).yld i H2 x H3 → ∃ R3, Rel K mg R3 S2 H3 ∧ Ext R2 R3 H2 H3 ∧ RepV K mg R3 w x) := by
  refine ⟨fun hi => by rw [upto_len] at hi; exact hi, fun w hw => ?_⟩
  obtain ⟨h1, rfl⟩ := upto_get hw
  refine ⟨h1, fun x H3 hx => ?_⟩
  obtain ⟨rfl, rfl⟩ := hx
  refine ⟨R2, A2, Ext.refl, ?_⟩
  rw [Int.mul_one]
  exact .mkInt
theorem rng1_of {i : Int} {ws : List Va} (h : rng [.int i] = some ws) : -(2 ^ 62) ≤ i ∧ i < 2 ^ 62 ∧ ws = upto 0 1 i.toNat := by
  have h : (if -4611686018427387904 ≤ i ∧ i < 4611686018427387904 then some (upto 0 1 i.toNat) else none) = some ws := h
  by_cases c : -4611686018427387904 ≤ i ∧ i < 4611686018427387904
  · rw [if_pos c] at h
    cases h
    exact ⟨by omega, by omega, rfl⟩
  · rw [if_neg c] at h
    cases h
theorem rng2_of {i j : Int} {ws : List Va} (h : rng [.int i, .int j] = some ws) : (-(2 ^ 62) ≤ i ∧ i < 2 ^ 62 ∧ -(2 ^ 62) ≤ j ∧ j < 2 ^ 62) ∧ ws = upto i 1 (j - i).toNat := by
  have h : (if -4611686018427387904 ≤ i ∧ i < 4611686018427387904 ∧ -4611686018427387904 ≤ j ∧ j < 4611686018427387904 then some (upto i 1 (j - i).toNat) else none) = some ws := h
  by_cases c : -4611686018427387904 ≤ i ∧ i < 4611686018427387904 ∧ -4611686018427387904 ≤ j ∧ j < 4611686018427387904
  · rw [if_pos c] at h
    cases h
    exact ⟨⟨by omega, by omega, by omega, by omega⟩, rfl⟩
  · rw [if_neg c] at h
    cases h
theorem rgc_up {i j c : Int} (h1 : 0 < c) (h2 : c < 1073741824) (h3 : -4611686018427387904 ≤ i) (h4 : i < 4611686018427387904) (h5 : -4611686018427387904 ≤ j) (h6 : j < 4611686018427387904) :
    RgC i j c (if i < j then ((j - i - 1) / c).toNat + 1 else 0) := by
  have e : Builtin.Range.rangeSize i j c = ((if i < j then ((j - i - 1) / c).toNat + 1 else 0 : Nat) : Int) := by
    unfold Builtin.Range.rangeSize
    rw [if_pos h1]
    by_cases q : i < j
    · rw [if_pos q, if_pos q]
      have : 0 ≤ (j - i - 1) / c := Int.ediv_nonneg (by omega) (by omega)
      omega
    · rw [if_neg q, if_neg q]
      rfl
  have le : Builtin.Range.rangeSize i j c ≤ 9223372036854775807 ∧ 0 ≤ Builtin.Range.rangeSize i j c := by
    unfold Builtin.Range.rangeSize
    rw [if_pos h1]
    by_cases q : i < j
    · rw [if_pos q]
      have a : 0 ≤ (j - i - 1) / c := Int.ediv_nonneg (by omega) (by omega)
      have b : (j - i - 1) / c ≤ j - i - 1 := Int.ediv_le_self _ (by omega)
      omega
    · rw [if_neg q]
      omega
  refine ⟨by omega, by omega, ?_, e⟩
  unfold Builtin.Range.small
  simp only [Builtin.Range.rangeFitsLong, Bool.and_eq_true, Bool.or_eq_true, decide_eq_true_eq, beq_iff_eq, show c > 0 from h1, if_true]
  refine ⟨⟨⟨⟨?_, ?_⟩, ?_⟩, ?_⟩, .inr ?_⟩ <;> omega
theorem rng3_of {i j c : Int} {ws : List Va} (h : rng [.int i, .int j, .int c] = some ws) : ∃ n, RgC i j c n ∧ ws = upto i c n := by
  have h : (if 0 < c ∧ c < 1073741824 ∧ -4611686018427387904 ≤ i ∧ i < 4611686018427387904 ∧ -4611686018427387904 ≤ j ∧ j < 4611686018427387904 then some (upto i c (if i < j then ((j - i - 1) / c).toNat + 1 else 0)) else none) = some ws := h
  by_cases q : 0 < c ∧ c < 1073741824 ∧ -4611686018427387904 ≤ i ∧ i < 4611686018427387904 ∧ -4611686018427387904 ≤ j ∧ j < 4611686018427387904
  · rw [if_pos q] at h
    cases h
    obtain ⟨q1, q2, q3, q4, q5, q6⟩ := q
    exact ⟨_, rgc_up q1 q2 q3 q4 q5 q6, rfl⟩
  · rw [if_neg q] at h
    cases h
theorem rng_one {w : Va} {ws : List Va} (h : rng [w] = some ws) : ∃ i, w = .int i := by
  cases w with
  | int i => exact ⟨i, rfl⟩
  | _ => cases h
theorem rng_two {w u : Va} {ws : List Va} (h : rng [w, u] = some ws) : ∃ i j, w = .int i ∧ u = .int j := by
  cases w with
  | int i =>
    cases u with
    | int j => exact ⟨i, j, rfl, rfl⟩
    | _ => cases h
  | _ => cases h
theorem rng_three {w u t : Va} {ws : List Va} (h : rng [w, u, t] = some ws) : ∃ i j c, w = .int i ∧ u = .int j ∧ t = .int c := by
  cases w with
  | int i =>
    cases u with
    | int j =>
      cases t with
      | int c => exact ⟨i, j, c, rfl, rfl, rfl⟩
      | _ => cases h
    | _ => cases h
  | _ => cases h
/-- which shape: so many arguments -/
theorem it_rng1 {fr : Evn → Store → Res (List Va)} (hl : ∀ env S ws S', fr env S = .ok ws S' → ws.length = 1) : IterOk X R0 H0 W (iRng1 (tG X.K X.mg R0 H0 W (repA X.K X.mg) fr)) (fRng fr) := by
  refine ⟨fun R S H env σ T A h => ?_⟩
  unfold fRng at h
  rw [wp_bind] at h
  have hl := hl env S
  refine ⟨R, S, env, A, ?_⟩
  cases q : fr env S with
  | bad => rw [q] at h; exact h
  | ex c a S1 => rw [q] at h; exact h
  | ok ws S1 =>
    rw [q] at h hl
    have hl := hl ws S1 rfl
    match ws, hl, h with
    | [w], _, h =>
      obtain ⟨rs, hrs, h2⟩ := lift_wp h
      obtain ⟨i, rfl⟩ := rng_one hrs
      obtain ⟨b1, b2, rfl⟩ := rng1_of hrs
      intro R1 H1 vs A1 e1 r1
      refine ⟨i, ints1 r1, b1, b2, h2 _ R1 H1 A1 e1 fun R2 S2 H2 k l2 A2 => range_turns A2⟩
theorem it_rng2 {fr : Evn → Store → Res (List Va)} (hl : ∀ env S ws S', fr env S = .ok ws S' → ws.length = 2) : IterOk X R0 H0 W (iRng2 (tG X.K X.mg R0 H0 W (repA X.K X.mg) fr)) (fRng fr) := by
  refine ⟨fun R S H env σ T A h => ?_⟩
  unfold fRng at h
  rw [wp_bind] at h
  have hl := hl env S
  refine ⟨R, S, env, A, ?_⟩
  cases q : fr env S with
  | bad => rw [q] at h; exact h
  | ex c a S1 => rw [q] at h; exact h
  | ok ws S1 =>
    rw [q] at h hl
    have hl := hl ws S1 rfl
    match ws, hl, h with
    | [w, u], _, h =>
      obtain ⟨rs, hrs, h2⟩ := lift_wp h
      obtain ⟨i, j, rfl, rfl⟩ := rng_two hrs
      obtain ⟨b, rfl⟩ := rng2_of hrs
      intro R1 H1 vs A1 e1 r1
      refine ⟨i, j, ints2 r1, b, h2 _ R1 H1 A1 e1 fun R2 S2 H2 k l2 A2 => range_turns A2⟩
theorem it_rng3 {fr : Evn → Store → Res (List Va)} (hl : ∀ env S ws S', fr env S = .ok ws S' → ws.length = 3) : IterOk X R0 H0 W (iRng3 (tG X.K X.mg R0 H0 W (repA X.K X.mg) fr)) (fRng fr) := by
  refine ⟨fun R S H env σ T A h => ?_⟩
  unfold fRng at h
  rw [wp_bind] at h
  have hl := hl env S
  refine ⟨R, S, env, A, ?_⟩
  cases q : fr env S with
  | bad => rw [q] at h; exact h
  | ex c a S1 => rw [q] at h; exact h
  | ok ws S1 =>
    rw [q] at h hl
    have hl := hl ws S1 rfl
    match ws, hl, h with
    | [w, u, t], _, h =>
      obtain ⟨rs, hrs, h2⟩ := lift_wp h
      obtain ⟨i, j, c, rfl, rfl, rfl⟩ := rng_three hrs
      obtain ⟨n, b, rfl⟩ := rng3_of hrs
      intro R1 H1 vs A1 e1 r1
      refine ⟨i, j, c, n, ints3 r1, b, h2 _ R1 H1 A1 e1 fun R2 S2 H2 k l2 A2 => ?_⟩
      refine ⟨fun hi => by rw [upto_len] at hi; exact hi, fun w hw => ?_⟩
      obtain ⟨g1, rfl⟩ := upto_get hw
      refine ⟨g1, fun x H3 hx => ?_⟩
      obtain ⟨rfl, rfl⟩ := hx
      exact ⟨R2, A2, Ext.refl, .mkInt⟩
/-- a list from its end -/
def revs (ws : List Va) : Option (List Va) := match ws with
  | [.lst l] => some l.reverse
  | _ => none
def fRev (fr : Evn → Store → Res (List Va)) : Evn → Store → Res (List Va) := fun env S => (fr env S).bind fun ws S1 => lift (revs ws) S1
theorem it_rev {fr : Evn → Store → Res (List Va)} : IterOk X R0 H0 W (iRev X.K (tG X.K X.mg R0 H0 W (repA X.K X.mg) fr)) (fRev fr) := by
  refine ⟨fun R S H env σ T A h => ?_⟩
  unfold fRev at h
  rw [wp_bind] at h
  refine ⟨R, S, env, A, wp_mono h (fun ws S1 h1 R1 H1 vs A1 e1 r1 => ?_) fun _ _ _ z => z⟩
  obtain ⟨rs, hrs, h2⟩ := lift_wp h1
  match ws, hrs, r1 with
  | [.lst l], hrs, r1 =>
    cases hrs
    unfold RepVs at r1
    obtain ⟨v, r, rfl, q1, q2⟩ := r1
    unfold RepVs at q2
    subst q2
    obtain ⟨p, us, rfl, hg, rs⟩ := q1.lst_
    have hlen := RepVs.length rs
    refine ⟨p, us, rfl, SqL.of (A1.rel.le _ _ hg), h2 _ R1 H1 A1 e1 fun R2 S2 H2 i l2 A2 => ⟨fun hi => ?_, fun w hw => ?_⟩⟩
    · rw [List.length_reverse] at hi
      show us.length ≤ i
      omega
    · have hi : i < l.length := by
        have := (List.getElem?_eq_some_iff.mp hw).1
        rwa [List.length_reverse] at this
      rw [List.getElem?_reverse hi] at hw
      obtain ⟨x, hx, rx⟩ := rs.get hw
      have hS : SqL X.K H2 p us := SqL.of (A2.le _ _ (l2.le _ _ hg))
      rw [← hlen] at hx hi
      refine ⟨⟨hi, us, x, hS, hx⟩, fun y H3 hy => ?_⟩
      obtain ⟨rfl, hy⟩ := hy
      have ey := hy us hS
      rw [hx] at ey
      cases ey
      exact ⟨R2, A2, Ext.refl, rx.mono l2⟩

/-! ### targets -/
/-- the slots ts may change -/
def Only (ts : List Nat) (σ σ' : L2.St) : Prop := σ'.length = σ.length ∧ ∀ j, j ∉ ts → σ'[j]? = σ[j]?
def TgtS (X : Cx) (R0 : RC) (H0 : Hp) (g : TG) (bind : Va → Evn → Option Evn) (ts : List Nat) : Prop := ∀ (R : RC) (S : Store) (H : Hp) (env env1 : Evn) (σ : L2.St) (w : Va) (v : V) (Q : L2.St → Hp → Prop), At X.K X.mg R0 H0 R S H env σ → RepV X.K X.mg R w v → bind w env = some env1 →
  (∀ σ', At X.K X.mg R0 H0 R S H env1 σ' → Only ts σ σ' → Q σ' H) → g v σ H Q
theorem TgtS.ok {g : TG} {bind : Va → Evn → Option Evn} {ts : List Nat} (h : TgtS X R0 H0 g bind ts) : TgtOk X R0 H0 g bind := fun R S H env env1 σ w v Q A r b q => h R S H env env1 σ w v Q A r b fun σ' A' _ => q σ' A'
def bName (i : Nat) : Va → Evn → Option Evn := fun w env => some (env.set i (.val w))
theorem g_name (i : Nat) : TgtS X R0 H0 (gName i) (bName i) [i] := fun R S H env env1 σ w v Q A r b q => by
  cases b
  refine q _ (A.set r i) ⟨by rw [List.length_set], fun j hj => ?_⟩
  rw [List.getElem?_set_ne fun z => hj (by rw [z]; exact List.mem_cons_self)]
/-- several names -/
def gNames : List Nat → TGs
  | [] => gNil
  | i :: is => gCons (gName i) (gNames is)
def bNames : List Nat → List Va → Evn → Option Evn
  | [], [], env => some env
  | i :: is, w :: ws, env => bNames is ws (env.set i (.val w))
  | _, _, _ => none
theorem gs_names : ∀ (is : List Nat) (R : RC) (S : Store) (H : Hp) (env env1 : Evn) (σ : L2.St) (ws : List Va) (vs : List V) (Q : L2.St → Hp → Prop), At X.K X.mg R0 H0 R S H env σ → RepVs X.K X.mg R ws vs → bNames is ws env = some env1 →
    (∀ σ', At X.K X.mg R0 H0 R S H env1 σ' → Only is σ σ' → Q σ' H) → gNames is vs σ H Q
  | [], R, S, H, env, env1, σ, [], vs, Q, A, r, b, q => by
    unfold RepVs at r
    cases b
    exact ⟨r, q σ A ⟨rfl, fun _ _ => rfl⟩⟩
  | [], R, S, H, env, env1, σ, w :: ws, vs, Q, A, r, b, q => by cases b
  | i :: is, R, S, H, env, env1, σ, [], vs, Q, A, r, b, q => by cases b
  | i :: is, R, S, H, env, env1, σ, w :: ws, vs, Q, A, r, b, q => by
    unfold RepVs at r
    obtain ⟨v, rr, rfl, r1, r2⟩ := r
    refine ⟨v, rr, rfl, ?_⟩
    show gNames is rr (σ.set i (some v)) H Q
    refine gs_names is R S H _ env1 _ ws rr Q (A.set r1 i) r2 b fun σ' A' o => q σ' A' ⟨by rw [o.1, List.length_set], fun j hj => ?_⟩
    rw [o.2 j fun z => hj (List.mem_cons_of_mem _ z), List.getElem?_set_ne fun z => hj (by rw [z]; exact List.mem_cons_self)]
def bTup (is : List Nat) : Va → Evn → Option Evn := fun w env => match w with
  | .tup ws => bNames is ws env
  | _ => none
theorem bNames_len : ∀ {is : List Nat} {ws : List Va} {env env1 : Evn}, bNames is ws env = some env1 → ws.length = is.length
  | [], [], _, _, _ => rfl
  | [], _ :: _, _, _, h => by cases h
  | _ :: _, [], _, _, h => by cases h
  | i :: is, w :: ws, env, env1, h => congrArg Nat.succ (bNames_len (is := is) (ws := ws) h)
theorem g_tup (is : List Nat) : TgtS X R0 H0 (gTup X.K is.length (gNames is)) (bTup is) is := fun R S H env env1 σ w v Q A r b q => by
  cases w with
  | tup ws =>
    obtain ⟨a, vs, rfl, ht, rs⟩ := r.tup_
    have b : bNames is ws env = some env1 := b
    exact ⟨a, vs, rfl, A.rel.sqT ht, by rw [RepVs.length rs, bNames_len b], gs_names is R S H env env1 σ ws vs Q A rs b q⟩
  | _ => cases b
end
end Mi
end
section
/-! Mi, part E: comprehensions. -/
namespace Mi
open PySem PySem.Spec PyProof.Rows L2

abbrev WF : WX := fun _ _ _ _ => False
/-- slots forgotten -/
def wipeE (env : Evn) : List Nat → Evn
  | [] => env
  | v :: vs => (wipeE env vs).set v .no
theorem wipe_at (σ : L2.St) : ∀ (vs : List Nat) (j : Nat), (wipe σ vs)[j]? = if j ∈ vs ∧ j < σ.length then some none else σ[j]?
  | [], j => by simp [wipe]
  | v :: vs, j => by
    show ((wipe σ vs).set v none)[j]? = _
    by_cases c : v = j
    · subst c
      by_cases hl : v < σ.length
      · rw [List.getElem?_set_self (by rw [wipe_length]; exact hl), if_pos ⟨List.mem_cons_self, hl⟩]
      · rw [if_neg fun z => hl z.2, List.getElem?_eq_none (by rw [List.length_set, wipe_length]; omega), List.getElem?_eq_none (by omega)]
    · rw [List.getElem?_set_ne c, wipe_at σ vs j]
      by_cases hm : j ∈ vs ∧ j < σ.length
      · rw [if_pos hm, if_pos ⟨List.mem_cons_of_mem _ hm.1, hm.2⟩]
      · rw [if_neg hm, if_neg]
        rintro ⟨h1, h2⟩
        rcases List.mem_cons.mp h1 with h1 | h1
        · exact c h1.symm
        · exact hm ⟨h1, h2⟩
theorem wipeE_length (σ : Evn) : ∀ vs : List Nat, (wipeE σ vs).length = σ.length
  | [] => rfl
  | v :: vs => by
    show ((wipeE σ vs).set v .no).length = _
    rw [List.length_set]
    exact wipeE_length σ vs
theorem wipeE_some (σ : Evn) : ∀ (vs : List Nat) (j : Nat) (sl : Sl), (wipeE σ vs)[j]? = some sl → sl ≠ .no → j ∉ vs ∧ σ[j]? = some sl
  | [], j, sl, h, _ => ⟨by simp, h⟩
  | v :: vs, j, sl, h, hn => by
    have h : ((wipeE σ vs).set v .no)[j]? = some sl := h
    by_cases c : v = j
    · subst c
      by_cases hl : v < (wipeE σ vs).length
      · rw [List.getElem?_set_self hl] at h
        exact absurd (Option.some.inj h).symm hn
      · rw [List.getElem?_eq_none (by rw [List.length_set]; omega)] at h
        cases h
    · rw [List.getElem?_set_ne c] at h
      obtain ⟨h1, h2⟩ := wipeE_some σ vs j sl h hn
      exact ⟨fun z => (List.mem_cons.mp z).elim (fun q => c q.symm) h1, h2⟩
section
variable {K : PySem.W.Frag} {mg : Str → Option Value} {R0 : RC} {H0 : Hp} {R R1 : RC} {S S1 : Store} {H H1 : Hp} {env : Evn} {σ : L2.St}
theorem At.wipe (A : At K mg R0 H0 R S H env σ) (vs : List Nat) : At K mg R0 H0 R S H (wipeE env vs) (L2.wipe σ vs) := by
  refine ⟨A.ext, A.rel, by rw [wipeE_length, wipe_length]; exact A.len, fun i w h => ?_, fun i l h => ?_, fun i j l l' p h1 h2 h3 h4 => ?_⟩
  · obtain ⟨h1, h2⟩ := wipeE_some env vs i _ h (fun z => nomatch z)
    obtain ⟨v, h3, h4⟩ := A.val i w h2
    exact ⟨v, by rw [wipe_at, if_neg fun z => h1 z.1]; exact h3, h4⟩
  · obtain ⟨h1, h2⟩ := wipeE_some env vs i _ h (fun z => nomatch z)
    obtain ⟨p, us, h3, h4⟩ := A.own i l h2
    exact ⟨p, us, by rw [wipe_at, if_neg fun z => h1 z.1]; exact h3, h4⟩
  · obtain ⟨g1, g2⟩ := wipeE_some env vs i _ h1 (fun z => nomatch z)
    obtain ⟨g3, g4⟩ := wipeE_some env vs j _ h2 (fun z => nomatch z)
    rw [wipe_at, if_neg fun z => g1 z.1] at h3
    rw [wipe_at, if_neg fun z => g3 z.1] at h4
    exact A.dis i j l l' p g2 g4 h3 h4
theorem wipe_only {σ σ' : L2.St} {ts vs : List Nat} (o : Only ts (L2.wipe σ vs) σ') (hs : ∀ j ∈ ts, j ∈ vs) : L2.wipe σ' vs = L2.wipe σ vs := by
  apply List.ext_getElem?
  intro j
  have hl : σ'.length = σ.length := by rw [o.1, wipe_length]
  rw [wipe_at, hl]
  by_cases c : j ∈ vs
  · by_cases d : j < σ.length
    · rw [if_pos ⟨c, d⟩, wipe_at, if_pos ⟨c, d⟩]
    · rw [if_neg fun z => d z.2, List.getElem?_eq_none (by omega), List.getElem?_eq_none (by rw [wipe_length]; omega)]
  · rw [if_neg fun z => c z.1, o.2 j fun z => c (hs j z)]
/-- an object that is no one's, written -/
theorem At.other (A : At K mg R0 H0 R S H env σ) {p : Addr} {o : HO} (hg : R.G p = none) (hi : p ∉ R.ι) (h0 : H0 p = none) (hd : ∀ (j : Nat) (l : List Va), env[j]? = some (.own l) → σ[j]? ≠ some (some (.ref p))) :
    At K mg R0 H0 R S (upd H p o) env σ := by
  refine ⟨⟨A.ext.r, fun a u e ha => ?_, A.ext.gn, A.ext.inw⟩, ⟨fun a u e => ?_, A.rel.len, A.rel.nd, fun a ha => ?_, fun i u a e1 e2 => ?_⟩, A.len, A.val, fun i l h => ?_, A.dis⟩
  · rw [upd_ne (ne_of_none e h0)]
    exact A.ext.fr a u e ha
  · rw [upd_ne (ne_of_none e hg)]
    exact A.rel.le a u e
  · by_cases c : a = p
    · subst c
      exact absurd ha hi
    · rw [upd_ne c]
      exact A.rel.tr a ha
  · have c : a ≠ p := fun z => hi (z ▸ List.mem_of_getElem? e2)
    exact (A.rel.cell i u a e1 e2).keep (RLe.refl R) (upd_ne c) fun z => z
  · obtain ⟨q, us, h1, h2, h3⟩ := A.own i l h
    refine ⟨q, us, h1, ?_, h3⟩
    rw [upd_ne fun z => hd i l h (by rw [← z]; exact h1)]
    exact h2
/-- a list of ours is data from now on -/
theorem At.adopt (A : At K mg R0 H0 R S H env σ) {p : Addr} {ws : List Va} {vs : List V} (hp : H p = some (.lst vs)) (r : RepVs K mg R ws vs) (hg : R.G p = none) (hi : p ∉ R.ι) (h0 : H0 p = none) (hd : ∀ (j : Nat) (l : List Va), env[j]? = some (.own l) → σ[j]? ≠ some (some (.ref p))) :
    At K mg R0 H0 (R.add p (.lst vs)) S H env σ ∧ RepV K mg (R.add p (.lst vs)) (.lst ws) (.ref p) := by
  have l1 : RLe R (R.add p (.lst vs)) := RLe.add hg
  have split : ∀ (a : Addr) (o : HO), (R.add p (.lst vs)).G a = some o → (a = p ∧ o = .lst vs) ∨ R.G a = some o := fun a o e => by
    have e : upd R.G p (.lst vs) a = some o := e
    by_cases c : a = p
    · subst c
      rw [upd_same] at e
      exact .inl ⟨rfl, (Option.some.inj e).symm⟩
    · rw [upd_ne c] at e
      exact .inr e
  refine ⟨⟨⟨A.ext.r.trans l1, A.ext.fr, fun a o e => ?_, A.ext.inw⟩, ⟨fun a o e => ?_, A.rel.len, A.rel.nd, A.rel.tr, fun j o a h1 h2 => ?_⟩, A.len, fun i w h => ?_, fun i l h => ?_, A.dis⟩, ?_⟩
  · rcases split a o e with ⟨rfl, _⟩ | e
    · exact .inr (.inl h0)
    · exact A.ext.gn a o e
  · rcases split a o e with ⟨rfl, rfl⟩ | e
    · exact hp
    · exact A.rel.le a o e
  · have c : a ≠ p := fun z => hi (z ▸ List.mem_of_getElem? h2)
    exact (A.rel.cell j o a h1 h2).keep l1 rfl fun z => by
      show upd R.G p (.lst vs) a = none
      rw [upd_ne c]
      exact z
  · obtain ⟨v, h1, h2⟩ := A.val i w h
    exact ⟨v, h1, h2.mono l1⟩
  · obtain ⟨q, us, h1, h2, h3, h4, h5⟩ := A.own i l h
    refine ⟨q, us, h1, h2, h3.mono l1, ?_, h5⟩
    show upd R.G p (.lst vs) q = none
    rw [upd_ne fun z => hd i l h (by rw [← z]; exact h1)]
    exact h4
  · unfold RepV
    exact ⟨p, vs, rfl, upd_same, r.mono l1⟩
end

/-- the new list's items -/
def lcL (bind : Va → Evn → Option Evn) (ft : Evn → Store → Res Bool) (fe : Evn → Store → Res Va) (env : Evn) : List Va → Store → Res (List Va)
  | [], S => .ok [] S
  | w :: ws, S => match bind w env with
    | some env1 => (ft env1 S).bind fun b S1 => if b = true then (fe env1 S1).bind fun y S2 => (lcL bind ft fe env ws S2).bind fun ys S3 => .ok (y :: ys) S3 else lcL bind ft fe env ws S1
    | none => .bad
def noEx {α : Type} (r : Res α) : Res α := match r with
  | .ok a S => .ok a S
  | _ => .bad
theorem noEx_wp {α : Type} {r : Res α} {Q : α → Store → Prop} {E : String → Option Int → Store → Prop} (h : (noEx r).wp Q E) : r.wp Q fun _ _ _ => False := by
  cases r with
  | ok a S => exact h
  | ex c a S => exact h
  | bad => exact h
def fLc (it : Evn → Store → Res (List Va)) (bind : Va → Evn → Option Evn) (ft : Evn → Store → Res Bool) (fe : Evn → Store → Res Va) (vs : List Nat) : Evn → Store → Res Va := fun env S =>
  (it env S).bind fun ws S1 => if small ws then (noEx (lcL bind ft fe (wipeE env vs) ws S1)).bind fun ys S2 => .ok (.lst ys) S2 else .bad

section
variable {X : Cx} {R0 : RC} {H0 : Hp} {W : WX}
theorem lc_readG {wi : TI} {g : TG} {it : Evn → Store → Res (List Va)} {bind : Va → Evn → Option Evn} {ft : Evn → Store → Res Bool} {fe : Evn → Store → Res Va} {vs ts : List Nat} (hi : IterOk X R0 H0 W wi it) (ht : TgtS X R0 H0 g bind ts) (hs : ∀ j ∈ ts, j ∈ vs)
    {σ : L2.St} {H : Hp} {Q : VK} {R : RC} {S : Store} {env : Evn} {Zw : Va → Store → Prop} (A : At X.K X.mg R0 H0 R S H env σ) (h : (fLc it bind ft fe vs env S).wp Zw (KE X.K X.mg R0 H0 W R env σ))
    (fin0 : ∀ (R1 : RC) (S1 : Store) (H1 : Hp) (D : Addr), At X.K X.mg R0 H0 R1 S1 H1 env σ → Ext R R1 H H1 → H1 D = none → ∀ (R' : RC) (S' : Store) (H' : Hp) (ys : List Va) (us : List V), At X.K X.mg R0 H0 R' S' H' (wipeE env vs) (wipe σ vs) → Ext R1 R' H1 H' → H' D = some (.lst us) → RepVs X.K X.mg R' ys us → R'.G D = none → D ∉ R'.ι → Zw (.lst ys) S' → Q (.ref D) H') :
    tLc wi g (tG X.K X.mg R0 H0 WF repB ft) (tG X.K X.mg R0 H0 WF (repV X.K X.mg) fe) vs σ H Q := by
  unfold fLc at h
  rw [wp_bind] at h
  refine hi.run R S H env σ _ A (wp_mono h (fun ws S1 h1 J R1 H1 A1 e1 hJ => ?_) fun _ _ _ z => z)
  obtain ⟨hz, h1⟩ := ite_wp h1
  have hz : ws.length ≤ sizeLine := of_decide_eq_true hz
  rw [wp_bind] at h1
  have h1 := noEx_wp h1
  intro D hD
  obtain ⟨f1, f2, f3, f4⟩ := A1.fresh hD
  have Aw := (A1.other (o := .lst []) f1 f2 f3 f4).wipe vs
  have fin := fin0 R1 S1 H1 D A1 e1 hD
  refine ⟨fun i m H' => m = ws.length - i ∧ i ≤ ws.length ∧ ∃ (R' : RC) (S' : Store) (acc : List Va) (us : List V), At X.K X.mg R0 H0 R' S' H' (wipeE env vs) (wipe σ vs) ∧ Ext R1 R' H1 H' ∧ H' D = some (.lst us) ∧ RepVs X.K X.mg R' acc us ∧ R'.G D = none ∧ D ∉ R'.ι ∧ acc.length ≤ i ∧
    (lcL bind ft fe (wipeE env vs) (ws.drop i) S').wp (fun ys S'' => Zw (.lst (acc ++ ys)) S'') (fun _ _ _ => False),
    ⟨ws.length, by simp, Nat.zero_le _, R1, S1, [], [], Aw, ⟨RLe.refl _, fun a o q _ => by rw [upd_ne (ne_of_none q hD)]; exact q, fun a o q => .inl q, fun a q => .inl q⟩, upd_same, .nil, f1, f2, Nat.le_refl _, wp_mono h1 (fun ys S'' z => z) fun _ _ _ z => z⟩, ?_⟩
  rintro i m H2 ⟨rfl, hil, R2, S2, acc, us, A2, e2, hp2, rs2, hg2, hni2, hal, h2⟩
  obtain ⟨j1, j2⟩ := hJ R2 S2 H2 i e2.r A2.rel
  by_cases hlt : i < ws.length
  · have eg : ws[i]? = some ws[i] := List.getElem?_eq_getElem hlt
    obtain ⟨hgo, hy⟩ := j2 _ eg
    rw [List.drop_eq_getElem_cons hlt] at h2
    refine .inr ⟨hgo, fun H' => ∃ (R' : RC) (S' : Store) (acc : List Va) (us : List V), At X.K X.mg R0 H0 R' S' H' (wipeE env vs) (wipe σ vs) ∧ Ext R1 R' H1 H' ∧ H' D = some (.lst us) ∧ RepVs X.K X.mg R' acc us ∧ R'.G D = none ∧ D ∉ R'.ι ∧ acc.length ≤ i + 1 ∧
      (lcL bind ft fe (wipeE env vs) (ws.drop (i + 1)) S').wp (fun ys S'' => Zw (.lst (acc ++ ys)) S'') (fun _ _ _ => False), fun H' q => ⟨_, by omega, rfl, hlt, q⟩, fun x H3 hx => ?_⟩
    obtain ⟨R3, r3, e3, q3⟩ := hy x H3 hx
    have keepD : ∀ {Ra Rb : RC} {Ha Hb : Hp} {vv : List V}, Ext Ra Rb Ha Hb → Ha D = some (.lst vv) → Ra.G D = none → D ∉ Ra.ι → Hb D = some (.lst vv) ∧ Rb.G D = none ∧ D ∉ Rb.ι := fun {Ra Rb Ha Hb vv} e a b c => by
      refine ⟨e.fr D _ a c, ?_, fun z => ?_⟩
      · cases q : Rb.G D with
        | none => rfl
        | some o =>
          rcases e.gn D o q with z | z | z
          · rw [b] at z; cases z
          · rw [a] at z; cases z
          · exact absurd z c
      · rcases e.inw D z with z | z
        · exact c z
        · rw [a] at z; cases z
    obtain ⟨d1, d2, d3⟩ := keepD e3 hp2 hg2 hni2
    have A3 := A2.step e3 r3
    have h2 : (match bind ws[i] (wipeE env vs) with
      | some env1 => (ft env1 S2).bind fun b S1 => if b = true then (fe env1 S1).bind fun y S2 => (lcL bind ft fe (wipeE env vs) (ws.drop (i + 1)) S2).bind fun ys S3 => .ok (y :: ys) S3 else lcL bind ft fe (wipeE env vs) (ws.drop (i + 1)) S1
      | none => .bad : Res (List Va)).wp (fun ys S'' => Zw (.lst (acc ++ ys)) S'') (fun _ _ _ => False) := h2
    cases hb : bind ws[i] (wipeE env vs) with
    | none =>
      rw [hb] at h2
      exact False.elim h2
    | some env1 =>
      rw [hb] at h2
      have h2 : ((ft env1 S2).bind fun b S1 => if b = true then (fe env1 S1).bind fun y S2 => (lcL bind ft fe (wipeE env vs) (ws.drop (i + 1)) S2).bind fun ys S3 => .ok (y :: ys) S3 else lcL bind ft fe (wipeE env vs) (ws.drop (i + 1)) S1).wp (fun ys S'' => Zw (.lst (acc ++ ys)) S'') (fun _ _ _ => False) := h2
      rw [wp_bind] at h2
      refine ht R3 S2 H3 _ env1 (wipe σ vs) _ x _ A3 q3 hb fun σ4 A4 o4 => ?_
      have hw := wipe_only o4 hs
      refine ⟨hw, R3, S2, env1, A4, wp_mono h2 (fun b S4 h4 R4 H4 bv A4' e4 rb => ?_) fun _ _ _ z => z.elim⟩
      have rb : bv = b := rb
      subst rb
      obtain ⟨d4, d5, d6⟩ := keepD e4 d1 d2 d3
      cases bv with
      | false =>
        have h4 : (lcL bind ft fe (wipeE env vs) (ws.drop (i + 1)) S4).wp (fun ys S'' => Zw (.lst (acc ++ ys)) S'') (fun _ _ _ => False) := h4
        exact ⟨R4, S4, acc, us, A3.step e4 A4'.rel, (e2.trans e3).trans e4, d4, (rs2.mono e3.r).mono e4.r, d5, d6, by omega, h4⟩
      | true =>
        have h4 : ((fe env1 S4).bind fun y S2 => (lcL bind ft fe (wipeE env vs) (ws.drop (i + 1)) S2).bind fun ys S3 => .ok (y :: ys) S3).wp (fun ys S'' => Zw (.lst (acc ++ ys)) S'') (fun _ _ _ => False) := h4
        rw [wp_bind] at h4
        refine ⟨R4, S4, env1, A4', wp_mono h4 (fun y S5 h5 R5 H5 yv A5 e5 ry => ?_) fun _ _ _ z => z.elim⟩
        obtain ⟨d7, d8, d9⟩ := keepD e5 d4 d5 d6
        have rs5 := ((rs2.mono e3.r).mono e4.r).mono e5.r
        have e15 := ((e2.trans e3).trans e4).trans e5
        refine ⟨us, d7, by rw [RepVs.length rs2]; omega, R5, S5, acc ++ [y], us ++ [yv], (((A3.step e4 A4'.rel).step e5 A5.rel).other d8 d9 f3 fun j l hj => ?_), ?_, upd_same, rs5.append (.one ry), d8, d9, by rw [List.length_append, List.length_singleton]; omega, ?_⟩
        · obtain ⟨_, hj2⟩ := wipeE_some env vs j _ hj (fun z => nomatch z)
          have hj1 := (wipeE_some env vs j _ hj (fun z => nomatch z)).1
          rw [wipe_at, if_neg fun z => hj1 z.1]
          exact f4 j l hj2
        · exact ⟨e15.r, fun a o q ha => by rw [upd_ne (ne_of_none q hD)]; exact e15.fr a o q ha, e15.gn, e15.inw⟩
        · rw [wp_bind] at h5
          refine wp_mono h5 (fun ys S6 z => ?_) fun _ _ _ z => z
          rw [List.append_assoc]
          exact z
  · have e : i = ws.length := by omega
    subst e
    rw [List.drop_length] at h2
    have h2 : Zw (.lst (acc ++ [])) S2 := h2
    rw [List.append_nil] at h2
    exact .inl ⟨j1 (Nat.le_refl _), fin R2 S2 H2 acc us A2 e2 hp2 rs2 hg2 hni2 h2⟩
theorem lc_read {wi : TI} {g : TG} {it : Evn → Store → Res (List Va)} {bind : Va → Evn → Option Evn} {ft : Evn → Store → Res Bool} {fe : Evn → Store → Res Va} {vs ts : List Nat} (hi : IterOk X R0 H0 W wi it) (ht : TgtS X R0 H0 g bind ts) (hs : ∀ j ∈ ts, j ∈ vs)
    {σ : L2.St} {H : Hp} {Q : VK} (h : tG X.K X.mg R0 H0 W (repV X.K X.mg) (fLc it bind ft fe vs) σ H Q) :
    tLc wi g (tG X.K X.mg R0 H0 WF repB ft) (tG X.K X.mg R0 H0 WF (repV X.K X.mg) fe) vs σ H Q := by
  obtain ⟨R, S, env, A, h⟩ := h
  refine lc_readG hi ht hs A h fun R1 S1 H1 D A1 e1 hD => ?_
  obtain ⟨f1, f2, f3, f4⟩ := A1.fresh hD
  exact fun R' S' H' ys us A' e' hp rs hg hni k => by
    have A2 := A1.step e' A'.rel
    obtain ⟨A3, r3⟩ := A2.adopt hp rs hg hni f3 f4
    refine k _ H' _ A3 ?_ r3
    have e := e1.trans e'
    refine ⟨e.r.trans (RLe.add hg), e.fr, fun a o q => ?_, e.inw⟩
    have q : upd R'.G D (.lst us) a = some o := q
    by_cases c : a = D
    · subst c
      by_cases hR : a ∈ R.ι
      · exact .inr (.inr hR)
      · cases qq : H a with
        | none => exact .inr (.inl rfl)
        | some o' =>
          rw [e1.fr a o' qq hR] at hD
          cases hD
    · rw [upd_ne c] at q
      exact e.gn a o q
end
end Mi
end
section
/-! Mi, part F: defs, methods, instances. -/
namespace Mi
open PySem PySem.Spec PyProof.Rows L2

/-! ### names of attributes -/
theorem ofS_inj {a b : String} (h : Str.ofString a = Str.ofString b) : a = b := by
  rw [Str.ofString_eq_toList, Str.ofString_eq_toList] at h
  have h1 := congrArg (fun x : Str => x.cps.toList) h
  simp only [List.toList_toArray] at h1
  have inj : ∀ (l l' : List Char), l.map Char.toNat = l'.map Char.toNat → l = l' := by
    intro l
    induction l with
    | nil => intro l' h; cases l' with
      | nil => rfl
      | cons _ _ => cases h
    | cons x r ih => intro l' h; cases l' with
      | nil => cases h
      | cons y s =>
        have h2 : x.toNat = y.toNat ∧ r.map Char.toNat = s.map Char.toNat := by
          simpa using h
        have e : x = y := Char.ext (UInt32.toNat_inj.mp h2.1)
        rw [e, ih s h2.2]
  exact String.toList_inj.mp (inj _ _ h1)
def putS (f : String) (v : Va) : List (String × Va) → List (String × Va)
  | [] => [(f, v)]
  | (g, u) :: r => if g = f then (f, v) :: r else (g, u) :: putS f v r
section
variable {K : PySem.W.Frag} {mg : Str → Option Value} {R R' R0 : RC} {S : Store} {H H0 : Hp} {env : Evn} {σ : L2.St}
theorem RepF.get : ∀ {fs : List (String × Va)} {vs : List (Str × V)} {f : String} {w : Va}, RepF K mg R fs vs → fs.lookup f = some w → ∃ v, vs.lookup (Str.ofString f) = some v ∧ RepV K mg R w v
  | [], _, _, _, _, e => by cases e
  | (g, u) :: fs, vs, f, w, h, e => by
    obtain ⟨v, r, rfl, h1, h2⟩ := h
    rw [List.lookup_cons] at e ⊢
    by_cases c : f = g
    · subst c
      simp only [beq_self_eq_true] at e ⊢
      cases e
      exact ⟨v, rfl, h1⟩
    · have c1 : (f == g) = false := beq_eq_false_iff_ne.mpr c
      have c2 : (Str.ofString f == Str.ofString g) = false := beq_eq_false_iff_ne.mpr fun z => c (ofS_inj z)
      rw [c1] at e
      rw [c2]
      exact RepF.get h2 e
theorem RepF.no : ∀ {fs : List (String × Va)} {vs : List (Str × V)} {f : String}, RepF K mg R fs vs → fs.lookup f = none → vs.lookup (Str.ofString f) = none
  | [], _, _, h, _ => by
    have h : _ = _ := h
    subst h
    rfl
  | (g, u) :: fs, vs, f, h, e => by
    obtain ⟨v, r, rfl, h1, h2⟩ := h
    rw [List.lookup_cons] at e ⊢
    by_cases c : f = g
    · subst c
      simp only [beq_self_eq_true] at e
      cases e
    · have c1 : (f == g) = false := beq_eq_false_iff_ne.mpr c
      have c2 : (Str.ofString f == Str.ofString g) = false := beq_eq_false_iff_ne.mpr fun z => c (ofS_inj z)
      rw [c1] at e
      rw [c2]
      exact RepF.no h2 e
theorem RepF.length : ∀ {fs : List (String × Va)} {vs : List (Str × V)}, RepF K mg R fs vs → vs.length = fs.length
  | [], _, h => by
    have h : _ = _ := h
    subst h
    rfl
  | (g, u) :: fs, vs, h => by
    obtain ⟨v, r, rfl, h1, h2⟩ := h
    rw [List.length_cons, List.length_cons, RepF.length h2]
theorem RepF.put : ∀ {fs : List (String × Va)} {vs : List (Str × V)} {f : String} {w : Va} {v : V}, RepF K mg R fs vs → RepV K mg R w v → RepF K mg R (putS f w fs) (putF (Str.ofString f) v vs)
  | [], _, f, w, v, h, r => by
    have h : _ = _ := h
    subst h
    exact ⟨v, [], rfl, r, rfl⟩
  | (g, u) :: fs, vs, f, w, v, h, r => by
    obtain ⟨v', r', rfl, h1, h2⟩ := h
    unfold putS putF
    by_cases c : g = f
    · rw [if_pos c, if_pos (by rw [c])]
      exact ⟨v, r', by rw [c], r, h2⟩
    · rw [if_neg c, if_neg fun z => c (ofS_inj z)]
      exact ⟨v', _, rfl, h1, RepF.put h2 r⟩
theorem putS_mem {f : String} {w : Va} : ∀ {fs : List (String × Va)} {p : String × Va}, p ∈ putS f w fs → p.1 = f ∨ p ∈ fs
  | [], p, h => by
    have e : p = (f, w) := by simpa [putS] using h
    exact .inl (by rw [e])
  | (g, u) :: fs, p, h => by
    have h : p ∈ (if g = f then (f, w) :: fs else (g, u) :: putS f w fs) := h
    by_cases c : g = f
    · rw [if_pos c] at h
      rcases List.mem_cons.mp h with e | h
      · exact .inl (by rw [e])
      · exact .inr (List.mem_cons_of_mem _ h)
    · rw [if_neg c] at h
      rcases List.mem_cons.mp h with e | h
      · exact .inr (by rw [e]; exact List.mem_cons_self)
      · rcases putS_mem h with e | e
        · exact .inl e
        · exact .inr (List.mem_cons_of_mem _ e)
/-- an object of the store is written -/
theorem Rel.write (r : Rel K mg R S H) {i : Nat} {a : Addr} {o : HO} {so : SO} (hi : R.ι[i]? = some a) (hg : R.G a = none) (new : RepO K mg R (upd H a o) a so) : Rel K mg R (S.set i so) (upd H a o) ∧ Ext R R H (upd H a o) := by
  have mem : a ∈ R.ι := List.mem_of_getElem? hi
  refine ⟨⟨fun b u e => ?_, by rw [List.length_set]; exact r.len, r.nd, fun b hb => ?_, fun j u b e1 e2 => ?_⟩, RLe.refl R, fun b u e hb => ?_, fun b u e => .inl e, fun b hb => .inl hb⟩
  · rw [upd_ne (ne_of_none e hg)]
    exact r.le b u e
  · by_cases c : b = a
    · subst c
      rw [upd_same]
      exact fun z => nomatch z
    · rw [upd_ne c]
      exact r.tr b hb
  · by_cases c : i = j
    · subst c
      rw [hi] at e2
      cases e2
      obtain ⟨hj, _⟩ := List.getElem?_eq_some_iff.mp e1
      rw [List.length_set] at hj
      rw [List.getElem?_set_self hj] at e1
      cases e1
      exact new
    · rw [List.getElem?_set_ne c] at e1
      have nb : b ≠ a := fun z => by
        subst z
        obtain ⟨h1, h2⟩ := List.getElem?_eq_some_iff.mp hi
        obtain ⟨h3, h4⟩ := List.getElem?_eq_some_iff.mp e2
        exact c ((List.getElem_inj r.nd).mp (h2.trans h4.symm))
      exact (r.cell j u b e1 e2).keep (RLe.refl R) (upd_ne nb) fun z => z
  · rw [upd_ne fun z => hb (by rw [z]; exact mem)]
    exact e
theorem Rel.objAt (r : Rel K mg R S H) {i : Nat} {so : SO} (h : S[i]? = some so) : ∃ a, R.ι[i]? = some a ∧ RepO K mg R H a so := by
  have hi : i < R.ι.length := by rw [r.len]; exact (List.getElem?_eq_some_iff.mp h).1
  exact ⟨R.ι[i], List.getElem?_eq_getElem hi, r.cell i so _ h (List.getElem?_eq_getElem hi)⟩
/-- a new instance and its dict -/
theorem Rel.made (r : Rel K mg R S H) {x dx C : Addr} {c : String} (hx : H x = none) (hdx : H dx = none) (ne : dx ≠ x) (hm : mg (Str.ofString c) = some (.ref C)) (hc : Cls K C) :
    Rel K mg ⟨R.G, R.ι ++ [x]⟩ (S ++ [.ins c []]) (upd (upd H dx (.own x)) x (.ins C dx [])) ∧ Ext R ⟨R.G, R.ι ++ [x]⟩ H (upd (upd H dx (.own x)) x (.ins C dx [])) := by
  have nx := r.inone hx
  have ndx := r.inone hdx
  have keep : ∀ b u, H b = some u → upd (upd H dx (.own x)) x (.ins C dx []) b = some u := fun b u e => by
    rw [upd_ne (ne_of_none e hx), upd_ne (ne_of_none e hdx)]
    exact e
  have le : RLe R ⟨R.G, R.ι ++ [x]⟩ := ⟨fun _ _ e => e, List.prefix_append _ _⟩
  refine ⟨⟨fun b u e => keep b u (r.le b u e), by simp [r.len], ?_, fun b hb => ?_, fun j u b e1 e2 => ?_⟩, le, fun b u e _ => keep b u e, fun b u e => .inl e, fun b hb => ?_⟩
  · show (R.ι ++ [x]).Nodup
    rw [List.nodup_append]
    exact ⟨r.nd, by simp, fun a ha b hb z => by
      rw [List.mem_singleton.mp hb] at z
      exact nx (by rw [← z]; exact ha)⟩
  · have hb : b ∈ R.ι ++ [x] := hb
    rcases List.mem_append.mp hb with hb | hb
    · cases q : H b with
      | none => exact absurd q (r.tr b hb)
      | some u =>
        rw [keep b u q]
        exact fun z => nomatch z
    · rw [List.mem_singleton.mp hb, upd_same]
      exact fun z => nomatch z
  · have e2 : (R.ι ++ [x])[j]? = some b := e2
    by_cases hj : j < S.length
    · rw [List.getElem?_append_left hj] at e1
      rw [List.getElem?_append_left (by rw [r.len]; exact hj)] at e2
      have hb : b ∈ R.ι := List.mem_of_getElem? e2
      refine (r.cell j u b e1 e2).keep le ?_ fun z => z
      rw [upd_ne fun z => nx (by rw [← z]; exact hb), upd_ne fun z => ndx (by rw [← z]; exact hb)]
    · rw [List.getElem?_append_right (by omega)] at e1
      rw [List.getElem?_append_right (by rw [r.len]; omega), r.len] at e2
      cases hk : j - S.length with
      | zero =>
        rw [hk] at e1 e2
        cases e1
        cases e2
        exact ⟨r.gnone hx, C, dx, [], hm, hc, (fun _ z => absurd z (by simp)), upd_same, rfl⟩
      | succ k =>
        rw [hk] at e1
        cases e1
  · have hb : b ∈ R.ι ++ [x] := hb
    rcases List.mem_append.mp hb with hb | hb
    · exact .inl hb
    · rw [List.mem_singleton.mp hb]
      exact .inr hx
end

/-! ### what a def is to be -/
def spOf (K : PySem.W.Frag) (mg : Str → Option Value) (n : Nat) (γf : List Va → Store → Res Va) : Sp := fun vs H Q E => vs.length = n ∧ ∃ (R : RC) (S : Store) (ws : List Va), Rel K mg R S H ∧ RepVs K mg R ws vs ∧
  (γf ws S).wp (fun w S' => ∀ (R' : RC) (H' : Hp) (v : V), Ext R R' H H' → Rel K mg R' S' H' → RepV K mg R' w v → Q v H')
    (fun c a S' => ∀ (R' : RC) (H' : Hp) (cls : Value) (d : Option Addr), Ext R R' H H' → Rel K mg R' S' H' → RepX mg R' c a cls d → E cls d H')
/-- the def at f keeps it -/
structure DefOk (P : Program) (w : World) (K : PySem.W.Frag) (mg : Str → Option Value) (base : Heap) (A : Around) (f : Addr) (n : Nat) (γf : List Va → Store → Res Va) : Prop where
  ex : ∃ (k : Nat) (fd : FuncData) (ps : List Str), FnOk P w K mg base (L2.CX P w) k f fd ps (spOf K mg n γf) ∧ Room (k + 1) A ∧ Binds K fd ps [] ∧ ps.length = n
  kp : PySem.W.keepIn K (.ref f) = true
  len : ∀ ws S, ws.length ≠ n → γf ws S = .bad
section
variable {X : Cx} {R0 : RC} {H0 : Hp} {W : WX} {e o : Expr} {es : List Expr} {fa : Evn → Store → Res Va} {fr : Evn → Store → Res (List Va)} {pos apos p : Pos} {γf : List Va → Store → Res Va} {n : Nat} {f C : Addr}
theorem len_of {ws : List Va} {S : Store} {Q : Va → Store → Prop} {E : String → Option Int → Store → Prop} (hl : ∀ ws S, ws.length ≠ n → γf ws S = .bad) (h : (γf ws S).wp Q E) : ws.length = n := by
  by_cases c : ws.length = n
  · exact c
  · rw [hl ws S c] at h
    exact h.elim
theorem sp_read {R : RC} {S : Store} {H : Hp} {env : Evn} {σ : L2.St} {ws : List Va} {vs : List V} {Q : VK} (hl : ∀ ws S, ws.length ≠ n → γf ws S = .bad) (A : At X.K X.mg R0 H0 R S H env σ) (r : RepVs X.K X.mg R ws vs)
    (h : (γf ws S).wp (KV X.K X.mg R0 H0 (repV X.K X.mg) R H env σ Q) (KE X.K X.mg R0 H0 W R env σ)) : spOf X.K X.mg n γf vs H Q (WE W σ) := by
  refine ⟨by rw [RepVs.length r]; exact len_of hl h, R, S, ws, A.rel, r, wp_mono h (fun w S' h1 R' H' v e' r' q' => h1 R' H' v (A.step e' r') e' q') fun c a S' h1 R' H' cls d e' r' q' => h1 R' H' cls d (A.step e' r') e'.r q'⟩
def fCall (γf : List Va → Store → Res Va) (fr : Evn → Store → Res (List Va)) : Evn → Store → Res Va := fun env S => (fr env S).bind fun ws S1 => γf ws S1
/-- f(a, ..) -/
theorem e_call {x : Str} (F : DefOk X.prog X.w X.K X.mg X.base X.A f n γf) (tk : Takes X W) (hg : Gl X x) (hm : X.mg x = some (.ref f)) (hdb : (x == ("__debug__" : Str)) = false) (ha : OA X R0 H0 W (e :: es) fr)
    (he : starEach (e :: es) X.env = (false, eval e X.env) :: starEach es X.env) (hpl : (backTo pos (starEach es X.env)).any (·.1) = false) : OE X R0 H0 W (.Call (.Name x p) (e :: es) [] pos) (fCall γf fr) := by
  obtain ⟨⟨k, fd, ps, G, hr, hb, hn⟩, kp, hl⟩ := F
  refine PEi (pe_callS G (hr.mono (Nat.le_succ k)) hg hm kp hb (fun σ => passAt tk σ) ha hdb he hpl) fun σ H Q h => ?_
  obtain ⟨R, S, env, A, h⟩ := h
  exact G_bind A h fun R1 S1 H1 ws vs A1 e1 r1 h1 => sp_read hl A1 r1 h1
theorem pe_callS0 {CX : CXT} {k : Nat} {fd : FuncData} {ps : List Str} {sp : Sp} {E : L2.St → XK} {x : Str} (F : FnOk X.prog X.w X.K X.mg X.base CX k f fd ps sp) (hr : Room k X.A) (hg : Gl X x) (hm : X.mg x = some (.ref f)) (hk : PySem.W.keepIn X.K (.ref f) = true) (hb : Binds X.K fd ps []) (hx : ∀ σ, PassesAt CX X σ (E σ)) (hdb : (x == ("__debug__" : Str)) = false) :
    PE X (.Call (.Name x p) [] [] pos) (tCallS sp E tNil) :=
  ⟨fun pins s σ H Q I h => wpAny_Call_Name_kw (ld_glob I hg hm (PySem.W.callWith_K0 I.kIn hk (run_fnS (us := []) F hr hb (hx σ) I .nil h)) hdb)⟩
/-- f() -/
theorem e_call0 {x : Str} (F : DefOk X.prog X.w X.K X.mg X.base X.A f n γf) (tk : Takes X W) (hg : Gl X x) (hm : X.mg x = some (.ref f)) (hdb : (x == ("__debug__" : Str)) = false) : OE X R0 H0 W (.Call (.Name x p) [] [] pos) (fCall γf fNil) := by
  obtain ⟨⟨k, fd, ps, G, hr, hb, hn⟩, kp, hl⟩ := F
  refine PEi (pe_callS0 G (hr.mono (Nat.le_succ k)) hg hm kp hb (fun σ => passAt tk σ) hdb) fun σ H Q h => ?_
  obtain ⟨R, S, env, A, h⟩ := h
  exact sp_read hl A .nil h
/-! ### a def that a local name holds -/
theorem pe_callSV {CX : CXT} {k i : Nat} {fd : FuncData} {ps : List Str} {sp : Sp} {E : L2.St → XK} {x : Str} {t : TA} (F : FnOk X.prog X.w X.K X.mg X.base CX k f fd ps sp) (hr : Room k X.A) (hk : PySem.W.keepIn X.K (.ref f) = true) (hb : Binds X.K fd ps []) (hx : ∀ σ, PassesAt CX X σ (E σ))
    (hN : X.N[i]? = some x) (hv : Vis X.env.scope x) (ha : PA X (e :: es) t) (hd : (x == ("__debug__" : Str)) = false) (hcd : (x == ("__classdict__" : Str)) = false) (he : starEach (e :: es) X.env = (false, eval e X.env) :: starEach es X.env) (hpl : (backTo pos (starEach es X.env)).any (·.1) = false) :
    PE X (.Call (.Name x p) (e :: es) [] pos) (fun σ H Q => σ[i]? = some (some (.ref f)) ∧ tCallS sp E t σ H Q) := by
  refine ⟨fun pins s σ H Q I h => ?_⟩
  obtain ⟨hs, ht⟩ := h
  refine wpAny_Call_Name_kw (thn ((pe_var (pos := p) hN hv hd hcd).run pins s σ H (fun v H1 => v = .ref f ∧ H1 = H) I ⟨.ref f, hs, rfl, rfl⟩) fun u s1 ⟨v, H1, I1, r1, q1⟩ => ?_)
  obtain ⟨rfl, rfl⟩ := q1
  cases r1
  refine PySem.W.callWith_K (h₀ := X.base) I.ok.mod.kin hk (thn (ha.run pos pins s1 σ _ _ I1 ht) fun us s2 ⟨vs, H2, I2, r, q⟩ => ⟨I2.kIn, ?_⟩) he hpl
  exact run_fnS F hr hb (hx σ) I2 r q
def fCallV (γfn : String → Option (List Va → Store → Res Va)) (fs : List String) (i : Nat) (fr : Evn → Store → Res (List Va)) : Evn → Store → Res Va := fun env S => match env[i]? with
  | some (.val (.fn nm)) => if fs.contains nm then (match γfn nm with
    | some g => fCall g fr env S
    | none => .bad) else .bad
  | _ => .bad
theorem e_callV {γfn : String → Option (List Va → Store → Res Va)} {fs : List String} {i : Nat} {x : Str} (hγ : ∀ nm, nm ∈ fs → ∀ g, γfn nm = some g → ∃ a n, X.mg (Str.ofString nm) = some (.ref a) ∧ DefOk X.prog X.w X.K X.mg X.base X.A a n g) (tk : Takes X W)
    (hN : X.N[i]? = some x) (hv : Vis X.env.scope x) (hd : (x == ("__debug__" : Str)) = false) (hcd : (x == ("__classdict__" : Str)) = false) (ha : OA X R0 H0 W (e :: es) fr) (he : starEach (e :: es) X.env = (false, eval e X.env) :: starEach es X.env) (hpl : (backTo pos (starEach es X.env)).any (·.1) = false) :
    OE X R0 H0 W (.Call (.Name x p) (e :: es) [] pos) (fCallV γfn fs i fr) := by
  refine ⟨fun pins s σ H Q I h => ?_⟩
  obtain ⟨R, S, env, A, h⟩ := h
  unfold fCallV at h
  cases q : env[i]? with
  | none => rw [q] at h; exact h.elim
  | some sl =>
    rw [q] at h
    cases sl with
    | val w =>
      cases w with
      | fn nm =>
        have h : (if fs.contains nm = true then (match γfn nm with | some g => fCall g fr env S | none => .bad) else .bad : Res Va).wp (KV X.K X.mg R0 H0 (repV X.K X.mg) R H env σ Q) (KE X.K X.mg R0 H0 W R env σ) := h
        by_cases c : fs.contains nm = true
        · rw [if_pos c] at h
          cases q2 : γfn nm with
          | none => rw [q2] at h; exact h.elim
          | some g =>
            rw [q2] at h
            obtain ⟨v, hσ, rv⟩ := A.val i _ q
            unfold RepV at rv
            obtain ⟨a, rfl, hm⟩ := rv
            obtain ⟨a', n', hm', D⟩ := hγ nm (by simpa using c) g q2
            have ea : a' = a := by
              rw [hm] at hm'
              cases hm'
              rfl
            subst ea
            obtain ⟨⟨k, fd, ps, G, hr, hb, hn⟩, kp, hl⟩ := D
            refine (pe_callSV G (hr.mono (Nat.le_succ k)) kp hb (fun σ => passAt tk σ) hN hv ha hd hcd he hpl).run pins s σ H Q I ⟨hσ, ?_⟩
            exact G_bind A h fun R1 S1 H1 ws vs A1 e1 r1 h1 => sp_read hl A1 r1 h1
        · rw [if_neg c] at h
          exact h.elim
      | _ => exact h.elim
    | _ => exact h.elim
/-! ### methods -/
/-- a method of the class c, by its name -/
structure MethOk (X : Cx) (c m : String) (n : Nat) (γf : List Va → Store → Res Va) : Prop where
  ex : ∃ (C f : Addr), X.mg (Str.ofString c) = some (.ref C) ∧ Meth X.K C (Str.ofString m) f ∧ DefOk X.prog X.w X.K X.mg X.base X.A f n γf
/-- the object's class is c, and m is no attribute of its own -/
def isObj (S : Store) (w : Va) (c m : String) : Bool := match w with
  | .ref i => match S[i]? with
    | some (.ins c' fs) => decide (c' = c) && (fs.lookup m).isNone
    | _ => false
  | _ => false
def fMeth (c m : String) (γf : List Va → Store → Res Va) (fa : Evn → Store → Res Va) (fr : Evn → Store → Res (List Va)) : Evn → Store → Res Va := fun env S => (fa env S).bind fun w S1 => if isObj S1 w c m then (fr env S1).bind fun ws S2 => γf (w :: ws) S2 else .bad
theorem isObj_of {S : Store} {w : Va} {c m : String} (h : isObj S w c m = true) : ∃ i fs, w = .ref i ∧ S[i]? = some (.ins c fs) ∧ fs.lookup m = none := by
  cases w with
  | ref i =>
    have h : (match S[i]? with | some (.ins c' fs) => decide (c' = c) && (fs.lookup m).isNone | _ => false) = true := h
    cases q : S[i]? with
    | none => rw [q] at h; cases h
    | some so =>
      rw [q] at h
      cases so with
      | ins c' fs =>
        have h : (decide (c' = c) && (fs.lookup m).isNone) = true := h
        rw [Bool.and_eq_true] at h
        have e : c' = c := of_decide_eq_true h.1
        subst e
        exact ⟨i, fs, rfl, q, Option.isNone_iff_eq_none.mp h.2⟩
      | _ => cases h
  | _ => cases h
def tMethX (C : Addr) (m : Str) (sp : Sp) (E : L2.St → XK) (ta : TE) (t : TA) : TE := fun σ H Q => ta σ H fun x H1 => ∃ a dx fs, x = .ref a ∧ H1 a = some (.ins C dx fs) ∧ fs.lookup m = none ∧ t σ H1 fun vs H2 => sp (x :: vs) H2 Q (E σ)
theorem pe_methX {k : Nat} {fd : FuncData} {ps : List Str} {sp : Sp} {E : L2.St → XK} {m : Str} {ta : TE} {t : TA} {pl : Sem Bool} (ho : PE X o ta) (c : Cls X.K C) (hm : Meth X.K C m f) (G : FnOk X.prog X.w X.K X.mg X.base (L2.CX X.prog X.w) k f fd ps sp) (hr : Room k X.A) (hb : Binds X.K fd ps [])
    (hx : ∀ σ, PassesAt (L2.CX X.prog X.w) X σ (E σ)) (ha : PA X (e :: es) t) (hst : starEach (e :: es) X.env = (false, eval e X.env) :: starEach es X.env) (hpl : (backTo pos (starEach es X.env)).any (·.1) = false)
    (ht : eval (.Call (.Attribute o m apos) (e :: es) [] pos) X.env = (do
      let ov ← eval o X.env
      standAt apos.atName
      let (f, first) ← holding [ov] (getMethod ov m pl)
      callWith pos f first (backTo pos (starEach (e :: es) X.env)) (backToKw pos (keywordEach [] X.env)))) : PE X (.Call (.Attribute o m apos) (e :: es) [] pos) (tMethX C m sp E ta t) :=
  ⟨fun pins s σ H Q I h => PySem.W.methodCall_KW (pl := pl) (thn (ho.run pins s σ H _ I h) fun u s1 hv => by
    obtain ⟨x, H1, I1, rx, a, dx, fs, rfl, ea, l, q⟩ := hv
    have eu : u = Value.ref a := rx
    subst eu
    refine getmeth_ok I1 ea c hm l (PySem.W.callWith_K (first := [.ref a]) (h₀ := X.base) I.ok.mod.kin hm.kp (thn (ha.run pos pins s1 σ H1 _ I1 q) fun us s2 hv2 => ?_) hst hpl)
    obtain ⟨vs, H2, I2, r, q2⟩ := hv2
    exact ⟨I2.kIn, run_fnS (us := .ref a :: us) (vs := .ref a :: vs) G hr hb (hx σ) I2 (.cons rfl r) q2⟩) ht⟩
theorem pe_methX0 {k : Nat} {fd : FuncData} {ps : List Str} {sp : Sp} {E : L2.St → XK} {m : Str} {ta : TE} {pl : Sem Bool} (ho : PE X o ta) (c : Cls X.K C) (hm : Meth X.K C m f) (G : FnOk X.prog X.w X.K X.mg X.base (L2.CX X.prog X.w) k f fd ps sp) (hr : Room k X.A) (hb : Binds X.K fd ps [])
    (hx : ∀ σ, PassesAt (L2.CX X.prog X.w) X σ (E σ))
    (ht : eval (.Call (.Attribute o m apos) [] [] pos) X.env = (do
      let ov ← eval o X.env
      standAt apos.atName
      let (f, first) ← holding [ov] (getMethod ov m pl)
      callWith pos f first (backTo pos (starEach [] X.env)) (backToKw pos (keywordEach [] X.env)))) : PE X (.Call (.Attribute o m apos) [] [] pos) (tMethX C m sp E ta tNil) :=
  ⟨fun pins s σ H Q I h => PySem.W.methodCall_KW (pl := pl) (thn (ho.run pins s σ H _ I h) fun u s1 hv => by
    obtain ⟨x, H1, I1, rx, a, dx, fs, rfl, ea, l, q⟩ := hv
    have eu : u = Value.ref a := rx
    subst eu
    exact getmeth_ok I1 ea c hm l (PySem.W.callWith_K0 (first := [.ref a]) I1.kIn hm.kp (run_fnS (us := [.ref a]) (vs := [.ref a]) G hr hb (hx σ) I1 (.cons rfl .nil) q))) ht⟩
theorem meth_read {c m : String} {C f : Addr} (hl : ∀ ws S, ws.length ≠ n → γf ws S = .bad) (hC : X.mg (Str.ofString c) = some (.ref C)) {σ : L2.St} {H : Hp} {Q : VK} (h : tG X.K X.mg R0 H0 W (repV X.K X.mg) (fMeth c m γf fa fr) σ H Q) :
    tMethX C (Str.ofString m) (spOf X.K X.mg n γf) (fun σ => WE W σ) (tG X.K X.mg R0 H0 W (repV X.K X.mg) fa) (tG X.K X.mg R0 H0 W (repA X.K X.mg) fr) σ H Q := by
  obtain ⟨R, S, env, A, h⟩ := h
  refine G_bind A h fun R1 S1 H1 w v A1 e1 r1 h1 => ?_
  obtain ⟨hob, h2⟩ := ite_wp h1
  obtain ⟨i, fs, rfl, hS, hno⟩ := isObj_of hob
  obtain ⟨a, rfl, hi⟩ := r1.ref_
  obtain ⟨b, hb, g, C', dx, vs, hm', hc', hna, hH, rf⟩ := A1.rel.objAt hS
  rw [hi] at hb
  cases hb
  rw [hC] at hm'
  cases hm'
  refine ⟨a, dx, vs, rfl, hH, rf.no hno, ?_⟩
  exact G_bind A1 h2 fun R2 S2 H2 ws us A2 e2 r2 h3 => sp_read hl A2 (.cons (r1.mono e2.r) r2) h3
theorem e_meth {c m : String} {pl : Sem Bool} (M : MethOk X c m n γf) (tk : Takes X W) (ho : OE X R0 H0 W o fa) (ha : OA X R0 H0 W (e :: es) fr) (hcls : ∀ C, X.mg (Str.ofString c) = some (.ref C) → Cls X.K C)
    (hst : starEach (e :: es) X.env = (false, eval e X.env) :: starEach es X.env) (hpl : (backTo pos (starEach es X.env)).any (·.1) = false)
    (ht : eval (.Call (.Attribute o (Str.ofString m) apos) (e :: es) [] pos) X.env = (do
      let ov ← eval o X.env
      standAt apos.atName
      let (f, first) ← holding [ov] (getMethod ov (Str.ofString m) pl)
      callWith pos f first (backTo pos (starEach (e :: es) X.env)) (backToKw pos (keywordEach [] X.env)))) : OE X R0 H0 W (.Call (.Attribute o (Str.ofString m) apos) (e :: es) [] pos) (fMeth c m γf fa fr) := by
  obtain ⟨C, f, hC, hm, ⟨k, fd, ps, G, hr, hb, hn⟩, kp, hl⟩ := M
  exact PEi (pe_methX ho (hcls C hC) hm G (hr.mono (Nat.le_succ k)) hb (fun σ => passAt tk σ) ha hst hpl ht) fun σ H Q h => meth_read (f := f) hl hC h
theorem e_meth0 {c m : String} {pl : Sem Bool} (M : MethOk X c m n γf) (tk : Takes X W) (ho : OE X R0 H0 W o fa) (hcls : ∀ C, X.mg (Str.ofString c) = some (.ref C) → Cls X.K C)
    (ht : eval (.Call (.Attribute o (Str.ofString m) apos) [] [] pos) X.env = (do
      let ov ← eval o X.env
      standAt apos.atName
      let (f, first) ← holding [ov] (getMethod ov (Str.ofString m) pl)
      callWith pos f first (backTo pos (starEach [] X.env)) (backToKw pos (keywordEach [] X.env)))) : OE X R0 H0 W (.Call (.Attribute o (Str.ofString m) apos) [] [] pos) (fMeth c m γf fa fNil) := by
  obtain ⟨C, f, hC, hm, ⟨k, fd, ps, G, hr, hb, hn⟩, kp, hl⟩ := M
  refine PEi (pe_methX0 ho (hcls C hC) hm G (hr.mono (Nat.le_succ k)) hb (fun σ => passAt tk σ) ht) fun σ H Q h => ?_
  have h2 := meth_read (f := f) hl hC h
  obtain ⟨R, S, env, A, h⟩ := h
  refine G_bind A h fun R1 S1 H1 w v A1 e1 r1 h1 => ?_
  obtain ⟨hob, h2⟩ := ite_wp h1
  obtain ⟨i, fs, rfl, hS, hno⟩ := isObj_of hob
  obtain ⟨a, rfl, hi⟩ := r1.ref_
  obtain ⟨b, hb, g, C', dx, vs, hm', hc', hna, hH, rf⟩ := A1.rel.objAt hS
  rw [hi] at hb
  cases hb
  rw [hC] at hm'
  cases hm'
  exact ⟨a, dx, vs, rfl, hH, rf.no hno, sp_read hl A1 (.one r1) h2⟩
end
end Mi
end
section
/-! Mi, part G: instances made, attributes, lists of one's own, targets. -/
namespace Mi
open PySem PySem.Spec PyProof.Rows L2
section
variable {X : Cx} {R0 : RC} {H0 : Hp} {W : WX} {e o : Expr} {es : List Expr} {fa fe : Evn → Store → Res Va} {fr : Evn → Store → Res (List Va)} {pos apos p pos' : Pos} {γf : List Va → Store → Res Va} {n : Nat} {f C : Addr}
/-- a class's __init__ -/
structure InitOk (X : Cx) (c : String) (n : Nat) (γf : List Va → Store → Res Va) : Prop where
  ex : ∃ (C f : Addr), X.mg (Str.ofString c) = some (.ref C) ∧ Cls X.K C ∧ Mk X.K C f ∧ DefOk X.prog X.w X.K X.mg X.base X.A f n γf
theorem run_mk {k : Nat} {fd : FuncData} {ps : List Str} {sp : Sp} {E : XK} {pins : List (Addr × Obj)} {σ : L2.St} {H : Hp} {s : Shared} {Q : VK} {us : List Value} {vs : List V} (M : Mk X.K C f) (G : FnOk X.prog X.w X.K X.mg X.base (L2.CX X.prog X.w) k f fd ps sp) (hr : Room (k + 1) X.A) (hb : Binds X.K fd ps [])
    (hx : PassesAt (L2.CX X.prog X.w) X σ E) (I : Inv X pins σ H s) (r : Vals vs us)
    (h : ∀ x dx, H x = none → H dx = none → dx ≠ x → sp (.ref x :: vs) (upd (upd H dx (.own x)) x (.ins C dx [])) (fun v H2 => v = .non ∧ Q (.ref x) H2) E) :
    wpAny (model X.prog X.w) X.A (call (.ref C) us) (EP X pins σ Q) X.xe s := by
  let dx := s.heap.objs.size
  have q0 := h (dx + 1) dx (I.hok.fresh (Nat.le_succ _)) (I.hok.fresh (Nat.le_refl _)) (Nat.ne_of_lt (Nat.lt_succ_self _))
  have J := Inv.made (C := C) I
  have rel : Vals (V.ref (dx + 1) :: vs) (Value.ref (dx + 1) :: us) := .cons rfl r
  have hlen : (Value.ref (dx + 1) :: us).length = ps.length := by
    rw [← rel.length]
    exact G.len _ _ _ _ q0
  have bnd := hb _ (Value.ref (dx + 1) :: us) J.kIn (by rw [List.append_nil]; exact hlen)
  rw [List.append_nil] at bnd
  have run := G.run _ X.stack _ _ ⟨Value.ref (dx + 1) :: us, []⟩ _ _ _ E (hr.make C us []) (J.env0.make C us []) bnd rel q0
  refine wpAny_call (make_map (f := f) I.kIn M.makes M.init (beq_iff_eq.mp M.fn) (codeAny_mono run fun res s' hres => ?_))
  match res, hres with
  | .error e, hres => exact hx pins _ _ e s' J hres
  | .ok (.ret u), hres =>
    obtain ⟨v, H', J2, rv, ev, q3⟩ := J.after hres
    subst ev
    exact ⟨rv, ⟨V.ref (dx + 1), H', J2, rfl, q3⟩⟩
  | .ok .next, hres => exact hres.elim
  | .ok .brk, hres => exact hres.elim
  | .ok .cont, hres => exact hres.elim
def tMakeX (C : Addr) (sp : Sp) (E : L2.St → XK) (t : TA) : TE := fun σ H Q => t σ H fun vs H1 => ∀ x dx, H1 x = none → H1 dx = none → dx ≠ x → sp (.ref x :: vs) (upd (upd H1 dx (.own x)) x (.ins C dx [])) (fun v H2 => v = .non ∧ Q (.ref x) H2) (E σ)
theorem pe_makeX {k : Nat} {fd : FuncData} {ps : List Str} {sp : Sp} {E : L2.St → XK} {x : Str} {t : TA} (M : Mk X.K C f) (G : FnOk X.prog X.w X.K X.mg X.base (L2.CX X.prog X.w) k f fd ps sp) (hr : Room (k + 1) X.A) (hg : Gl X x) (hm : X.mg x = some (.ref C)) (hb : Binds X.K fd ps [])
    (hx : ∀ σ, PassesAt (L2.CX X.prog X.w) X σ (E σ)) (hdb : (x == ("__debug__" : Str)) = false) (ha : PA X (e :: es) t) (hst : starEach (e :: es) X.env = (false, eval e X.env) :: starEach es X.env) (hpl : (backTo pos (starEach es X.env)).any (·.1) = false) :
    PE X (.Call (.Name x p) (e :: es) [] pos) (tMakeX C sp E t) :=
  ⟨fun pins s σ H Q I h => wpAny_Call_Name_kw (ld_glob I hg hm (PySem.W.callWith_K (h₀ := X.base) I.ok.mod.kin M.kp (thn (ha.run pos pins s σ H _ I h) fun us s1 hv => by
    obtain ⟨vs, H1, I1, r, q⟩ := hv
    exact ⟨I1.kIn, run_mk M G hr hb (hx σ) I1 r q⟩) hst hpl) hdb)⟩
theorem pe_makeX0 {k : Nat} {fd : FuncData} {ps : List Str} {sp : Sp} {E : L2.St → XK} {x : Str} (M : Mk X.K C f) (G : FnOk X.prog X.w X.K X.mg X.base (L2.CX X.prog X.w) k f fd ps sp) (hr : Room (k + 1) X.A) (hg : Gl X x) (hm : X.mg x = some (.ref C)) (hb : Binds X.K fd ps [])
    (hx : ∀ σ, PassesAt (L2.CX X.prog X.w) X σ (E σ)) (hdb : (x == ("__debug__" : Str)) = false) :
    PE X (.Call (.Name x p) [] [] pos) (tMakeX C sp E tNil) :=
  ⟨fun pins s σ H Q I h => wpAny_Call_Name_kw (ld_glob I hg hm (PySem.W.callWith_K0 I.kIn M.kp (run_mk (us := []) M G hr hb (hx σ) I .nil h)) hdb)⟩
def fNew (c : String) (γf : List Va → Store → Res Va) (fr : Evn → Store → Res (List Va)) : Evn → Store → Res Va := fun env S => (fr env S).bind fun ws S1 => (γf (.ref S1.length :: ws) (S1 ++ [.ins c []])).bind fun w S2 => if w = .non then .ok (.ref S1.length) S2 else .bad
theorem RepV.toNon {K : PySem.W.Frag} {mg : Str → Option Value} {R : RC} {w : Va} {v : V} (h : RepV K mg R w v) (e : w = .non) : v = .non := by
  subst e
  exact h.non_
theorem new_read {c : String} (hl : ∀ ws S, ws.length ≠ n → γf ws S = .bad) (hC : X.mg (Str.ofString c) = some (.ref C)) (hc : Cls X.K C) {σ : L2.St} {H : Hp} {Q : VK} (h : tG X.K X.mg R0 H0 W (repV X.K X.mg) (fNew c γf fr) σ H Q) :
    tMakeX C (spOf X.K X.mg n γf) (fun σ => WE W σ) (tG X.K X.mg R0 H0 W (repA X.K X.mg) fr) σ H Q := by
  obtain ⟨R, S, env, A, h⟩ := h
  refine G_bind A h fun R1 S1 H1 ws vs A1 e1 r1 h1 => ?_
  intro x dx hx hdx ne
  rw [wp_bind] at h1
  obtain ⟨rel, ext⟩ := A1.rel.made hx hdx ne hC hc
  have hi : (R1.ι ++ [x])[S1.length]? = some x := by
    rw [List.getElem?_append_right (by rw [A1.rel.len]; exact Nat.le_refl _), A1.rel.len, Nat.sub_self] <;> rfl
  have rx : RepV X.K X.mg ⟨R1.G, R1.ι ++ [x]⟩ (.ref S1.length) (.ref x) := by
    unfold RepV
    exact ⟨x, rfl, hi⟩
  have rvs : RepVs X.K X.mg ⟨R1.G, R1.ι ++ [x]⟩ (.ref S1.length :: ws) (.ref x :: vs) := .cons rx (r1.mono ext.r)
  refine ⟨by rw [RepVs.length rvs]; exact len_of hl h1, _, _, _, rel, rvs, wp_mono h1 (fun w S' h2 R' H' v e' r' q' => ?_) fun c a S' h2 R' H' cls d e' r' q' => h2 R' H' cls d (A1.step (ext.trans e') r') (ext.trans e').r q'⟩
  obtain ⟨hw, h3⟩ : w = .non ∧ KV X.K X.mg R0 H0 (repV X.K X.mg) R1 H1 env σ Q (.ref S1.length) S' := by
    by_cases c : w = .non
    · rw [if_pos c] at h2
      exact ⟨c, h2⟩
    · rw [if_neg c] at h2
      exact h2.elim
  exact ⟨q'.toNon hw, h3 R' H' _ (A1.step (ext.trans e') r') (ext.trans e') (rx.mono e'.r)⟩
theorem e_new {c : String} (M : InitOk X c n γf) (tk : Takes X W) (hg : Gl X (Str.ofString c)) (hdb : (Str.ofString c == ("__debug__" : Str)) = false) (ha : OA X R0 H0 W (e :: es) fr)
    (he : starEach (e :: es) X.env = (false, eval e X.env) :: starEach es X.env) (hpl : (backTo pos (starEach es X.env)).any (·.1) = false) : OE X R0 H0 W (.Call (.Name (Str.ofString c) p) (e :: es) [] pos) (fNew c γf fr) := by
  obtain ⟨C, f, hC, hc, hM, ⟨k, fd, ps, G, hr, hb, hn⟩, kp, hl⟩ := M
  exact PEi (pe_makeX hM G hr hg hC hb (fun σ => passAt tk σ) hdb ha he hpl) fun σ H Q h => new_read hl hC hc h
theorem e_new0 {c : String} (M : InitOk X c n γf) (tk : Takes X W) (hg : Gl X (Str.ofString c)) (hdb : (Str.ofString c == ("__debug__" : Str)) = false) : OE X R0 H0 W (.Call (.Name (Str.ofString c) p) [] [] pos) (fNew c γf fNil) := by
  obtain ⟨C, f, hC, hc, hM, ⟨k, fd, ps, G, hr, hb, hn⟩, kp, hl⟩ := M
  refine PEi (pe_makeX0 hM G hr hg hC hb (fun σ => passAt tk σ) hdb) fun σ H Q h => ?_
  obtain ⟨R, S, env, A, h⟩ := h
  have h2 := new_read (σ := σ) (H := H) (Q := Q) hl hC hc ⟨R, S, env, A, h⟩
  unfold tMakeX at h2 ⊢
  obtain ⟨R', S', env', A', h3⟩ := h2
  exact h3 R' H [] A' Ext.refl .nil

/-! ### attributes -/
def fldOf (S : Store) (w : Va) (f : String) : Option Va := match w with
  | .ref i => match S[i]? with
    | some (.ins _ fs) => fs.lookup f
    | _ => none
  | _ => none
theorem fldOf_of {S : Store} {w u : Va} {f : String} (h : fldOf S w f = some u) : ∃ i c fs, w = .ref i ∧ S[i]? = some (.ins c fs) ∧ fs.lookup f = some u := by
  cases w with
  | ref i =>
    have h : (match S[i]? with | some (.ins _ fs) => fs.lookup f | _ => none) = some u := h
    cases q : S[i]? with
    | none => rw [q] at h; cases h
    | some so =>
      rw [q] at h
      cases so with
      | ins c fs => exact ⟨i, c, fs, rfl, q, h⟩
      | _ => cases h
  | _ => cases h
def fFld (fa : Evn → Store → Res Va) (f : String) : Evn → Store → Res Va := fun env S => (fa env S).bind fun w S1 => lift (fldOf S1 w f) S1
theorem lookup_mem {f : String} {u : Va} : ∀ {fs : List (String × Va)}, fs.lookup f = some u → (f, u) ∈ fs
  | [], h => by cases h
  | (g, w) :: r, h => by
    rw [List.lookup_cons] at h
    by_cases c : f = g
    · subst c
      simp only [beq_self_eq_true] at h
      cases h
      exact List.mem_cons_self
    · rw [beq_eq_false_iff_ne.mpr c] at h
      exact List.mem_cons_of_mem _ (lookup_mem h)
theorem e_fld {f : String} (ho : OE X R0 H0 W o fa) (hb : attributeBase o (Str.ofString f) X.env (eval o X.env) = eval o X.env) : OE X R0 H0 W (.Attribute o (Str.ofString f) pos) (fFld fa f) := PEi (pe_fld ho hb) fun σ H Q h => by
  obtain ⟨R, S, env, A, h⟩ := h
  refine G_bind A h fun R1 S1 H1 w v A1 e1 r1 h1 => ?_
  obtain ⟨u, hu, h2⟩ := lift_wp h1
  obtain ⟨i, c, fs, rfl, hS, hf⟩ := fldOf_of hu
  obtain ⟨a, rfl, hi⟩ := r1.ref_
  obtain ⟨b, hb, g, C, dx, vs, hm, hc, hna, hH, rf⟩ := A1.rel.objAt hS
  rw [hi] at hb
  cases hb
  obtain ⟨y, hy, ry⟩ := rf.get hf
  exact ⟨a, C, dx, vs, y, rfl, hH, hc, hna (f, u) (lookup_mem hf), hy, h2 R1 H1 y A1 Ext.refl ry⟩
/-- o.f = e; ok: which attributes a class may have -/
def setFld (ok : String → String → Bool) (S : Store) (w u : Va) (f : String) : Option Store := match w with
  | .ref i => match S[i]? with
    | some (.ins c fs) => if ok c f && decide (fs.length < 1000) then some (S.set i (.ins c (putS f u fs))) else none
    | _ => none
  | _ => none
def sFldA (ok : String → String → Bool) (fa fe : Evn → Store → Res Va) (f : String) : Evn → Store → RS := fun env S => (fe env S).toS env fun u S1 => (fa env S1).toS env fun w S2 => match setFld ok S2 w u f with
  | some S3 => .nx env S3
  | none => .bad
theorem s_fld {ok : String → String → Bool} {f : String} (ho : OE X R0 H0 W o fa) (he : OE X R0 H0 W e fe) (hs : swapsWith e (some (.Attribute o (Str.ofString f) pos')) pos.line X.env = pure false)
    (hok : ∀ c C, ok c f = true → X.mg (Str.ofString c) = some (.ref C) → NoAttr X.K C (Str.ofString f)) : OS X R0 H0 W (.Assign [.Attribute o (Str.ofString f) pos'] e pos) (sFldA ok fa fe f) := PSi (ps_fld ho he hs) fun D σ H h => by
  obtain ⟨R, S, env, A, h⟩ := h
  refine S_bind A h fun R1 S1 H1 u y A1 e1 r1 h1 => ?_
  refine S_bind A1 h1 fun R2 S2 H2 w v A2 e2 r2 h2 => ?_
  cases q : setFld ok S2 w u f with
  | none =>
    rw [q] at h2
    exact h2.elim
  | some S3 =>
    rw [q] at h2
    cases w with
    | ref i =>
      have q : (match S2[i]? with
        | some (.ins c fs) => if ok c f && decide (fs.length < 1000) then some (S2.set i (.ins c (putS f u fs))) else none
        | _ => none) = some S3 := q
      cases qS : S2[i]? with
      | none => rw [qS] at q; cases q
      | some so =>
        rw [qS] at q
        cases so with
        | ins c fs =>
          have q : (if (ok c f && decide (fs.length < 1000)) = true then some (S2.set i (.ins c (putS f u fs))) else none) = some S3 := q
          by_cases hk : (ok c f && decide (fs.length < 1000)) = true
          · rw [if_pos hk] at q
            cases q
            rw [Bool.and_eq_true] at hk
            obtain ⟨a, rfl, hi⟩ := r2.ref_
            obtain ⟨b, hb, g, C, dx, vs, hm, hc, hna, hH, rf⟩ := A2.rel.objAt qS
            rw [hi] at hb
            cases hb
            have nf := hok c C hk.1 hm
            refine ⟨a, C, dx, vs, rfl, hH, hc, nf, by rw [rf.length]; exact of_decide_eq_true hk.2, ?_⟩
            have nfs : ∀ p ∈ putS f u fs, NoAttr X.K C (Str.ofString p.1) := fun p hp => by
              rcases putS_mem hp with e | e
              · rw [e]
                exact nf
              · exact hna p e
            obtain ⟨rel, ext⟩ := A2.rel.write (so := .ins c (putS f u fs)) (o := .ins C dx (putF (Str.ofString f) y vs)) hi g ⟨g, C, dx, _, hm, hc, nfs, upd_same, rf.put (r1.mono e2.r)⟩
            exact h2 R2 _ σ (A2.step ext rel) (RLe.refl R2)
          · rw [if_neg hk] at q
            cases q
        | _ => cases q
    | _ => cases q

/-! ### a list of one's own: made, grown, changed -/
def sOwnL (i : Nat) (fr : Evn → Store → Res (List Va)) : Evn → Store → RS := fun env S => (fr env S).toS env fun ws S1 => if small ws then .nx (env.set i (.own ws)) S1 else .bad
theorem ites {c : Bool} {r : RS} {N : Evn → Store → Prop} {T : Va → Store → Prop} {E : String → Option Int → Evn → Store → Prop} (h : (if c = true then r else .bad).wp N T E) : c = true ∧ r.wp N T E := by
  cases c with
  | false => exact False.elim h
  | true => exact ⟨rfl, h⟩
theorem s_ownL {i : Nat} {x : Str} (hN : X.N.Nodup) (hi : X.N[i]? = some x) (hx : Loc X.env.scope x) (ha : OA X R0 H0 W es fr) (hf : X.fn x = true) : OS X R0 H0 W (.Assign [.Name x pos'] (.List es apos) pos) (sOwnL i fr) :=
  PSi (ps_set hN hi hx (pe_lst ha) rfl (.inl hf)) fun D σ H h => by
    obtain ⟨R, S, env, A, h⟩ := h
    refine S_bind A h fun R1 S1 H1 ws vs A1 e1 r1 h1 => ?_
    obtain ⟨hz, h2⟩ := ites h1
    refine ⟨by rw [RepVs.length r1]; exact of_decide_eq_true hz, fun q hq => ?_⟩
    obtain ⟨f1, f2, f3, f4⟩ := A1.fresh hq
    exact h2 R1 _ _ ((A1.other (o := .lst vs) f1 f2 f3 f4).setOwn r1 upd_same f1 f2 f3 f4 i) (RLe.refl R1)
/-- a list of one's own, made of a comprehension -/
def ownCK (i : Nat) (env : Evn) (w : Va) (S : Store) : RS := match w with
  | .lst l => .nx (env.set i (.own l)) S
  | _ => .bad
def sOwnC (i : Nat) (fe : Evn → Store → Res Va) : Evn → Store → RS := fun env S => (fe env S).toS env (ownCK i env)
theorem ownC_read {wi : TI} {g : TG} {it : Evn → Store → Res (List Va)} {bind : Va → Evn → Option Evn} {ft : Evn → Store → Res Bool} {fe : Evn → Store → Res Va} {vs ts : List Nat} (hi : IterOk X R0 H0 W wi it) (ht : TgtS X R0 H0 g bind ts) (hs : ∀ j ∈ ts, j ∈ vs)
    {i : Nat} {D : Ends} {σ : L2.St} {H : Hp} (h : tS X.K X.mg R0 H0 W (sOwnC i (fLc it bind ft fe vs)) D σ H) :
    tAsg (tLc wi g (tG X.K X.mg R0 H0 WF repB ft) (tG X.K X.mg R0 H0 WF (repV X.K X.mg) fe) vs) (gName i) D σ H := by
  obtain ⟨R, S, env, A, h⟩ := h
  unfold sOwnC at h
  rw [wps_toS] at h
  have h2 := wp_mono h (fun w S1 z => z) (E' := KE X.K X.mg R0 H0 W R env σ) fun c a S1 h1 R1 H1 cls d A1 l rx => h1 R1 H1 σ cls d A1 l rx
  refine lc_readG hi ht hs A h2 fun R1 S1 H1 p A1 e1 hD R' S' H' ys us A' e' hp rs hg hni hz => ?_
  obtain ⟨_, _, f3, f4⟩ := A1.fresh hD
  have A2 := A1.step e' A'.rel
  exact hz R' H' _ (A2.setOwn rs hp hg hni f3 f4 i) (e1.r.trans e'.r)
/-- what a slot's own list is -/
def ownAt (env : Evn) (i : Nat) : Option (List Va) := match env[i]? with
  | some (.own l) => some l
  | _ => none
theorem ownAt_of {env : Evn} {i : Nat} {l : List Va} (h : ownAt env i = some l) : env[i]? = some (.own l) := by
  have h : (match env[i]? with | some (.own l) => some l | _ => none) = some l := h
  cases q : env[i]? with
  | none => rw [q] at h; cases h
  | some s =>
    rw [q] at h
    cases s with
    | own l' => cases h; rfl
    | _ => cases h
/-- x.append(e) -/
def sApp (i : Nat) (fe : Evn → Store → Res Va) : Evn → Store → RS := fun env S => match ownAt env i with
  | some l => (fe env S).toS env fun w S1 => if l.length < sizeLine then .nx (env.set i (.own (l ++ [w]))) S1 else .bad
  | none => .bad
theorem few1 {p : Pos} (hst : starEach [e] X.env = [(false, eval e X.env)]) : ((backTo p (starEach [e] X.env)).all (fun x => !x.1) && (backToKw p (keywordEach [] X.env)).all (fun x => x.1.isSome)
      && decide (([e] : List Expr).length + ([] : List Keyword).length + (if ([] : List Keyword).isEmpty then 0 else 1) < 30)) = true := by
  rw [hst]
  rfl
theorem s_app {i : Nat} {x : Str} {xp : Pos} (hN : X.N[i]? = some x) (hv : Vis X.env.scope x) (hd : (x == ("__debug__" : Str)) = false) (hcd : (x == ("__classdict__" : Str)) = false) (he : OE X R0 H0 W e fe) (hst : starEach [e] X.env = [(false, eval e X.env)]) (hline : (apos.endLine == p.line) = true) :
    OS X R0 H0 W (.Expr (.Call (.Attribute (.Name x xp) "append" apos) [e] [] p) pos) (sApp i fe) := by
  have ha : PA X [e] (tCons (tG X.K X.mg R0 H0 W (repV X.K X.mg) fe) tNil) := pa_cons he pa_nil hst
  refine PSi (ps_expr (pe_bm PySem.F.plainAttrs_list PySem.F.slot_list_append PySem.F.type_list_append mt_append (pe_var hN hv hd hcd) ha rfl (few1 hst) hline hst rfl) rfl) fun D σ H h => ?_
  obtain ⟨R, S, env, A, h⟩ := h
  unfold sApp at h
  cases hl : ownAt env i with
  | none =>
    rw [hl] at h
    exact h.elim
  | some l =>
    rw [hl] at h
    have hs := ownAt_of hl
    obtain ⟨q, vs, h1, h2, h3, h4, h5, h6⟩ := A.own i l hs
    refine ⟨.ref q, h1, .inl ⟨rfl, vs, SqL.of h2⟩, ?_⟩
    refine S_bind A h fun R1 S1 H1 w v A1 e1 r1 hh => ?_
    obtain ⟨q', us, g1, g2, g3, g4, g5, g6⟩ := A1.own i l hs
    rw [h1] at g1
    cases g1
    by_cases hz : l.length < sizeLine
    · rw [if_pos hz] at hh
      refine ⟨q, us, v, rfl, rfl, g2, by rw [RepVs.length g3]; exact hz, ?_⟩
      exact hh R1 _ σ (A1.grow hs h1 g2 (g3.append (.one r1))) (RLe.refl R1)
    · rw [if_neg hz] at hh
      exact hh.elim
/-- x[k] = e -/
def sSetO (i : Nat) (fe fk : Evn → Store → Res Va) : Evn → Store → RS := fun env S => (fe env S).toS env fun w S1 => match ownAt env i with
  | some l => (fk env S1).toS env fun u S2 => match u with
    | .int k => match ixN l.length k with
      | some j => .nx (env.set i (.own (l.set j w))) S2
      | none => .bad
    | _ => .bad
  | none => .bad
theorem RepVs.set {K : PySem.W.Frag} {mg : Str → Option Value} {R : RC} : ∀ {ws : List Va} {vs : List V} {w : Va} {v : V} (j : Nat), RepVs K mg R ws vs → RepV K mg R w v → RepVs K mg R (ws.set j w) (vs.set j v)
  | [], vs, w, v, j, h, r => by
    unfold RepVs at h
    subst h
    exact .nil
  | u :: ws, vs, w, v, j, h, r => by
    unfold RepVs at h
    obtain ⟨x, rr, rfl, h1, h2⟩ := h
    cases j with
    | zero => exact .cons r h2
    | succ j => exact .cons h1 (RepVs.set j h2 r)
theorem s_setO {i : Nat} {x : Str} {xp : Pos} {ke : Expr} {fk : Evn → Store → Res Va} (hN : X.N[i]? = some x) (hv : Vis X.env.scope x) (hd : (x == ("__debug__" : Str)) = false) (hcd : (x == ("__classdict__" : Str)) = false) (he : OE X R0 H0 W e fe) (hk : OE X R0 H0 W ke fk)
    (hg : ∀ {to ti : TE} {t : TSet}, PE X (.Name x xp) to → PE X ke ti → PSet X t → PG X (.Subscript (.Name x xp) ke pos') (gSub to ti t)) (hs : swapsWithSole [.Subscript (.Name x xp) ke pos'] e pos.line X.env = pure false) (hw : swappedStores [.Subscript (.Name x xp) ke pos'] e X.env = pure none) :
    OS X R0 H0 W (.Assign [.Subscript (.Name x xp) ke pos'] e pos) (sSetO i fe fk) := PSi (ps_asg he (hg (pe_var hN hv hd hcd) hk set_list) hs hw rfl) fun D σ H h => by
  obtain ⟨R, S, env, A, h⟩ := h
  refine S_bind A h fun R1 S1 H1 w y A1 e1 r1 h1 => ?_
  cases hl : ownAt env i with
  | none =>
    rw [hl] at h1
    exact h1.elim
  | some l =>
    rw [hl] at h1
    have hs := ownAt_of hl
    obtain ⟨q, vs, g1, g2, g3, g4, g5, g6⟩ := A1.own i l hs
    refine ⟨.ref q, g1, ?_⟩
    refine S_bind A1 h1 fun R2 S2 H2 u z A2 e2 r2 h2 => ?_
    cases u with
    | int k =>
      have h2 : (match ixN l.length k with
        | some j => RS.nx (env.set i (.own (l.set j w))) S2
        | none => .bad).wp _ _ _ := h2
      cases hj : ixN l.length k with
      | none =>
        rw [hj] at h2
        exact h2.elim
      | some j =>
        rw [hj] at h2
        obtain ⟨q', us, k1, k2, k3, k4, k5, k6⟩ := A2.own i l hs
        rw [g1] at k1
        cases k1
        refine ⟨q, us, k, j, rfl, r2.int_, k2, by rw [RepVs.length k3]; exact hj, ?_⟩
        exact h2 R2 _ σ (A2.grow hs g1 k2 (k3.set j (r1.mono e2.r))) (RLe.refl R2)
    | _ => exact h2.elim

/-! ### several targets -/
def sAsgT (bind : Va → Evn → Option Evn) (fe : Evn → Store → Res Va) : Evn → Store → RS := fun env S => (fe env S).toS env fun w S1 => match bind w env with
  | some env1 => .nx env1 S1
  | none => .bad
theorem s_asgT {tg : Expr} {g : TG} {bind : Va → Evn → Option Evn} {ts : List Nat} (ht : TgtS X R0 H0 g bind ts) (he : OE X R0 H0 W e fe) (hg : PG X tg g) (hs : swapsWithSole [tg] e pos.line X.env = pure false) (hw : swappedStores [tg] e X.env = pure none)
    (h1 : (assignEach [tg] X.env).map (·.2) = [assign tg X.env]) : OS X R0 H0 W (.Assign [tg] e pos) (sAsgT bind fe) := PSi (ps_asg he hg hs hw h1) fun D σ H h => by
  obtain ⟨R, S, env, A, h⟩ := h
  refine S_bind A h fun R1 S1 H1 w y A1 e1 r1 h1 => ?_
  cases hb : bind w env with
  | none =>
    rw [hb] at h1
    exact h1.elim
  | some env1 =>
    rw [hb] at h1
    exact ht R1 S1 H1 env env1 σ w y _ A1 r1 hb fun σ' A' _ => h1 R1 H1 σ' A' (RLe.refl R1)
/-- a, b = x, y -/
def sPar (i j : Nat) (fr : Evn → Store → Res (List Va)) : Evn → Store → RS := fun env S => (fr env S).toS env fun ws S1 => match ws with
  | [w, u] => .nx ((env.set i (.val w)).set j (.val u)) S1
  | _ => .bad
theorem s_par {i j : Nat} {x y : Str} {a b : Expr} {px py pt : Pos} {kt k2 : Nat} {pt2 : Pos} (hc : X.calm = true) (hN : X.N.Nodup) (hi : X.N[i]? = some x) (hj : X.N[j]? = some y) (hij : i ≠ j)
    (hx : X.env.scope.names.lookup x = some .local) (hy : X.env.scope.names.lookup y = some .local) (ha : OA X R0 H0 W [a, b] fr)
    (hw : swappedStores [.Tuple [.Name x px, .Name y py] kt pt] (.Tuple [a, b] k2 pt2) X.env = pure (some [x, y])) :
    OS X R0 H0 W (.Assign [.Tuple [.Name x px, .Name y py] kt pt] (.Tuple [a, b] k2 pt2) pos) (sPar i j fr) := PSi (ps_par hc hN hi hj hij hx hy ha hw rfl) fun D σ H h => by
  obtain ⟨R, S, env, A, h⟩ := h
  refine S_bind A h fun R1 S1 H1 ws vs A1 e1 r1 h1 => ?_
  match ws, r1, h1 with
  | [w, u], r1, h1 =>
    unfold repA RepVs at r1
    obtain ⟨v, r, rfl, q1, q2⟩ := r1
    unfold RepVs at q2
    obtain ⟨v2, r2, rfl, q3, q4⟩ := q2
    unfold RepVs at q4
    subst q4
    exact ⟨v, v2, rfl, h1 R1 H1 _ ((A1.set q1 i).set q3 j) (RLe.refl R1)⟩
  | [], _, h1 => exact h1.elim
  | [_], _, h1 => exact h1.elim
  | _ :: _ :: _ :: _, _, h1 => exact h1.elim
/-- for -/
theorem s_for {tg iter : Expr} {body : List Stmt} {wi : TI} {g : TG} {it : Evn → Store → Res (List Va)} {bind : Va → Evn → Option Evn} {fb : Evn → Store → RS} (hp : PassesOwn (model X.prog X.w) X.A X.env X.xe) (hc : X.calm = true) (hpi : PI X tg iter wi) (hi : IterOk X R0 H0 W wi it) (hg : PG X tg g) (ht : TgtOk X R0 H0 g bind)
    (hb : OSs X R0 H0 W body fb) (hs : ∀ x, foldedSetIterable iter X.env x = pure x) : OS X R0 H0 W (.For tg iter body [] pos) (sFor it bind fb) := PSi (ps_for hp hc hpi hg hb hs) fun _ _ _ h => for_read hi ht h

/-! ### the body of a def -/
def bodyS (np ns : Nat) (fb : Evn → Store → RS) : List Va → Store → Res Va := fun ws S => if ws.length = np then match fb (ws.map .val ++ List.replicate (ns - np) .no) S with
  | .nx _ S' => .ok .non S'
  | .rt w S' => .ok w S'
  | .ex c a _ S' => .ex c a S'
  | .bad => .bad else .bad
theorem bodyS_len {np ns : Nat} {fb : Evn → Store → RS} : ∀ ws S, ws.length ≠ np → bodyS np ns fb ws S = .bad := fun ws S h => by
  unfold bodyS
  rw [if_neg h]
theorem at_start {K : PySem.W.Frag} {mg : Str → Option Value} {R : RC} {S : Store} {H : Hp} {ws : List Va} {vs : List V} (r : Rel K mg R S H) (q : RepVs K mg R ws vs) (N : List Str) (hle : ws.length ≤ N.length) : At K mg R H R S H (ws.map .val ++ List.replicate (N.length - ws.length) .no) (L2.start N vs) := by
  have hl := RepVs.length q
  have noOwn : ∀ (i : Nat) (l : List Va), (ws.map Sl.val ++ List.replicate (N.length - ws.length) .no)[i]? ≠ some (.own l) := fun i l h => by
    rcases List.mem_append.mp (List.mem_of_getElem? h) with z | z
    · obtain ⟨w, _, e⟩ := List.mem_map.mp z
      cases e
    · cases List.eq_of_mem_replicate z
  refine ⟨Ext.refl, r, by unfold L2.start; simp [hl], fun i w h => ?_, fun i l h => absurd h (noOwn i l), fun i j l l' p h _ _ _ => absurd h (noOwn i l)⟩
  have hi : i < ws.length := by
    by_cases c : i < ws.length
    · exact c
    · rw [List.getElem?_append_right (by rw [List.length_map]; omega)] at h
      cases List.eq_of_mem_replicate (List.mem_of_getElem? h)
  rw [List.getElem?_append_left (by rw [List.length_map]; exact hi), List.getElem?_map] at h
  cases e : ws[i]? with
  | none => rw [e] at h; cases h
  | some u =>
    rw [e] at h
    cases h
    obtain ⟨v, h1, h2⟩ := q.get e
    refine ⟨v, ?_, h2⟩
    unfold L2.start
    rw [List.getElem?_append_left (by rw [List.length_map, hl]; exact hi), List.getElem?_map, h1]
    rfl
/-- a def whose body is read keeps its promise -/
theorem fn_ok {P : Program} {w : World} {K : PySem.W.Frag} {mg : Str → Option Value} {base : Heap} {x qual : Str} {params : Arguments} {body : List Stmt} {scope : Scope} {f : Addr} {fd : FuncData} {N ps : List Str} {k : Nat} {fb : Evn → Store → RS}
    (F : FunD K x qual params body scope [] [] f fd) (Sc : FnScope N ps scope) (hle : ps.length ≤ N.length)
    (hb : ∀ (cdv : Value) (A : Around) (outer : List Env) (s : Shared) (H : Hp) (E : XK) (R : RC), Room k (A.deeper (envOfC qual scope s.heap.objs.size f cdv)) →
      OSs (cxOf (L2.CX P w) P w K mg base N qual scope f cdv A outer s H E) R H (fun cls d _ H' => E cls d H') body fb) : FnOk P w K mg base (L2.CX P w) (k + 1) f fd ps (spOf K mg ps.length (bodyS ps.length N.length fb)) := by
  refine F.ok Sc (fun vs H Q E h => h.1) fun cdv A outer s H vs Q E hr h => ?_
  obtain ⟨hl, R, S, ws, r, q, hw⟩ := h
  have hl2 : ws.length = ps.length := by rw [← hl, RepVs.length q]
  refine ⟨_, hb cdv A outer s H E R hr, R, S, _, at_start r q N (by omega), ?_⟩
  unfold bodyS at hw
  rw [if_pos hl2] at hw
  rw [hl2]
  cases e : fb (ws.map .val ++ List.replicate (N.length - ps.length) .no) S with
  | nx env S' =>
    rw [e] at hw
    exact fun R' H' σ' A' _ => hw R' H' _ A'.ext A'.rel .mkNon
  | rt w S' =>
    rw [e] at hw
    exact fun R' H' v x' _ r' q' => hw R' H' v x' r' q'
  | ex c a env S' =>
    rw [e] at hw
    exact fun R' H' σ' cls d A' _ rx => hw R' H' cls d A'.ext A'.rel rx
  | bad =>
    rw [e] at hw
    exact hw
end
end Mi
end
section
/-! Mi, part H: what is built in, by values (first part: numbers, lists, tuples). -/
namespace Mi
open PySem PySem.Spec PyProof.Rows L2
section
variable {X : Cx}
theorem Prim2.or {r r' : R2} {o o' : Va → Va → Option Va} (h : Prim2 X r o) (h' : Prim2 X r' o') : Prim2 X (fun x y H Q => r x y H Q ∨ r' x y H Q) (fun a b => (o a b).or (o' a b)) := fun R S H w1 w2 x y w Q hr h1 h2 e k => by
  have e : (o w1 w2).or (o' w1 w2) = some w := e
  cases q : o w1 w2 with
  | some u =>
    rw [q] at e
    cases e
    exact .inl (h R S H w1 w2 x y _ Q hr h1 h2 q k)
  | none =>
    rw [q] at e
    exact .inr (h' R S H w1 w2 x y w Q hr h1 h2 e k)
theorem PrimA.or {r r' : List V → Hp → VK → Prop} {o o' : List Va → Option Va} (h : PrimA X r o) (h' : PrimA X r' o') : PrimA X (fun x H Q => r x H Q ∨ r' x H Q) (fun a => (o a).or (o' a)) := fun R S H w1 x w Q hr h1 e k => by
  have e : (o w1).or (o' w1) = some w := e
  cases q : o w1 with
  | some u =>
    rw [q] at e
    cases e
    exact .inl (h R S H w1 x _ Q hr h1 q k)
  | none =>
    rw [q] at e
    exact .inr (h' R S H w1 x w Q hr h1 e k)
/-! ### ints -/
def oInt (c : Int → Int → Bool) (g : Int → Int → Va) : Va → Va → Option Va := fun a b => match a, b with
  | .int i, .int j => if c i j then some (g i j) else none
  | _, _ => none
theorem oInt_of {c : Int → Int → Bool} {g : Int → Int → Va} {a b w : Va} (h : oInt c g a b = some w) : ∃ i j, a = .int i ∧ b = .int j ∧ c i j = true ∧ w = g i j := by
  cases a with
  | int i =>
    cases b with
    | int j =>
      have h : (if c i j = true then some (g i j) else none) = some w := h
      by_cases q : c i j = true
      · rw [if_pos q] at h
        cases h
        exact ⟨i, j, rfl, rfl, q, rfl⟩
      · rw [if_neg q] at h
        cases h
    | _ => cases h
  | _ => cases h
theorem p_int {C : Int → Int → Prop} {c : Int → Int → Bool} {f : Int → Int → V} {g : Int → Int → Va} (hc : ∀ i j, c i j = true → C i j) (hg : ∀ R i j, RepV X.K X.mg R (g i j) (f i j)) : Prim2 X (rI C f) (oInt c g) := fun R S H w1 w2 x y w Q hr h1 h2 e k => by
  obtain ⟨i, j, rfl, rfl, q, rfl⟩ := oInt_of e
  exact ⟨i, j, h1.int_, h2.int_, hc i j q, k R H _ hr Ext.refl (hg R i j)⟩
theorem p_int0 {f : Int → Int → V} {g : Int → Int → Va} (hg : ∀ R i j, RepV X.K X.mg R (g i j) (f i j)) : Prim2 X (rI0 f) (oInt (fun _ _ => true) g) := fun R S H w1 w2 x y w Q hr h1 h2 e k => by
  obtain ⟨i, j, rfl, rfl, q, rfl⟩ := oInt_of e
  exact ⟨i, j, h1.int_, h2.int_, k R H _ hr Ext.refl (hg R i j)⟩
def mulOk (i j : Int) : Bool := decide ((-18446744073709551616 < i ∧ i < 18446744073709551616) ∨ (-18446744073709551616 < j ∧ j < 18446744073709551616))
def divOk (_ j : Int) : Bool := decide (j ≠ 0 ∧ j.natAbs < 1073741824)
def modOk (_ j : Int) : Bool := decide (j ≠ 0)
def powOk (i j : Int) : Bool := decide (0 ≤ j ∧ j ≤ 1000000 ∧ i.natAbs < 18446744073709551616)
abbrev iAdd := oInt (fun _ _ => true) fun i j => .int (i + j)
abbrev iSub := oInt (fun _ _ => true) fun i j => .int (i - j)
abbrev iMul := oInt mulOk fun i j => .int (i * j)
abbrev iDiv := oInt divOk fun i j => .int (i.fdiv j)
abbrev iMod := oInt modOk fun i j => .int (i.fmod j)
abbrev iPow := oInt powOk fun i j => .int (i ^ j.toNat)
abbrev iLt := oInt (fun _ _ => true) fun i j => .bl (decide (i < j))
abbrev iLe := oInt (fun _ _ => true) fun i j => .bl (decide (i ≤ j))
abbrev iGt := oInt (fun _ _ => true) fun i j => .bl (decide (j < i))
abbrev iGe := oInt (fun _ _ => true) fun i j => .bl (decide (j ≤ i))
theorem p_iSub : Prim2 X (rI0 fun i j => .int (i - j)) iSub := p_int0 fun _ _ _ => .mkInt
theorem p_iAdd : Prim2 X (rI0 fun i j => .int (i + j)) iAdd := p_int0 fun _ _ _ => .mkInt
theorem p_iMul : Prim2 X (rI CMul fun i j => .int (i * j)) iMul := p_int (fun i j h => by
  have h := of_decide_eq_true h
  rcases h with h | h
  · exact .inl ⟨by omega, by omega⟩
  · exact .inr ⟨by omega, by omega⟩) fun _ _ _ => .mkInt
theorem p_iDiv : Prim2 X (rI CDivN fun i j => .int (i.fdiv j)) iDiv := p_int (fun i j h => by
  have h : j ≠ 0 ∧ j.natAbs < 1073741824 := of_decide_eq_true h
  exact h) fun _ _ _ => .mkInt
theorem p_iMod : Prim2 X (rI (fun _ j => j ≠ 0) fun i j => .int (i.fmod j)) iMod := p_int (fun i j h => by
  have h : j ≠ 0 := of_decide_eq_true h
  exact h) fun _ _ _ => .mkInt
theorem p_iPow : Prim2 X (rI CPow fun i j => .int (i ^ j.toNat)) iPow := p_int (fun i j h => by
  have h := of_decide_eq_true h
  exact ⟨h.1, h.2.1, by have := h.2.2; omega⟩) fun _ _ _ => .mkInt
theorem p_iLt : Prim2 X (rI0 fun i j => .bl (decide (i < j))) iLt := p_int0 fun _ _ _ => .mkBl
theorem p_iLe : Prim2 X (rI0 fun i j => .bl (decide (i ≤ j))) iLe := p_int0 fun _ _ _ => .mkBl
theorem p_iGt : Prim2 X (rI0 fun i j => .bl (decide (j < i))) iGt := p_int0 fun _ _ _ => .mkBl
theorem p_iGe : Prim2 X (rI0 fun i j => .bl (decide (j ≤ i))) iGe := p_int0 fun _ _ _ => .mkBl
/-! ### + of lists, tuples, texts -/
def lAdd : Va → Va → Option Va := fun a b => match a, b with
  | .lst l, .lst m => if l.length + m.length ≤ sizeLine then some (.lst (l ++ m)) else none
  | _, _ => none
theorem p_lAdd : Prim2 X rCat lAdd := fun R S H w1 w2 x y w Q hr h1 h2 e k => by
  cases w1 with
  | lst l =>
    cases w2 with
    | lst m =>
      have e : (if l.length + m.length ≤ sizeLine then some (Va.lst (l ++ m)) else none) = some w := e
      by_cases c : l.length + m.length ≤ sizeLine
      · rw [if_pos c] at e
        cases e
        obtain ⟨a, vs, rfl, ha, ra⟩ := h1.lst_
        obtain ⟨b, us, rfl, hb, rb⟩ := h2.lst_
        refine ⟨a, b, vs, us, rfl, rfl, hr.le _ _ ha, hr.le _ _ hb, by rw [RepVs.length ra, RepVs.length rb]; exact c, fun p hp => ?_⟩
        obtain ⟨n1, n2, n3⟩ := hr.newL hp (ra.append rb)
        exact k _ _ _ n1 n2 n3
      · rw [if_neg c] at e
        cases e
    | _ => cases e
  | _ => cases e
def tAddV : Va → Va → Option Va := fun a b => match a, b with
  | .tup l, .tup m => if l ≠ [] ∧ l.length + m.length ≤ sizeLine then some (.tup (l ++ m)) else none
  | _, _ => none
theorem p_tAdd : Prim2 X (rCatT X.K) tAddV := fun R S H w1 w2 x y w Q hr h1 h2 e k => by
  cases w1 with
  | tup l =>
    cases w2 with
    | tup m =>
      have e : (if l ≠ [] ∧ l.length + m.length ≤ sizeLine then some (Va.tup (l ++ m)) else none) = some w := e
      by_cases c : l ≠ [] ∧ l.length + m.length ≤ sizeLine
      · rw [if_pos c] at e
        cases e
        obtain ⟨a, vs, rfl, ha, ra⟩ := h1.tup_
        obtain ⟨b, us, rfl, hb, rb⟩ := h2.tup_
        have la := RepVs.length ra
        have lb := RepVs.length rb
        refine ⟨a, b, vs, us, rfl, rfl, hr.sqT ha, hr.sqT hb, fun z => c.1 ?_, by rw [la, lb]; exact c.2, fun z => ?_, fun z p hp => ?_⟩
        · rw [z] at la
          exact List.length_eq_zero_iff.mp la.symm
        · rw [z] at lb
          have em : m = [] := List.length_eq_zero_iff.mp lb.symm
          subst em
          rw [List.append_nil] at k
          exact k R H _ hr Ext.refl h1
        · obtain ⟨n1, n2, n3⟩ := hr.newT hp (ra.append rb)
          exact k _ _ _ n1 n2 n3
      · rw [if_neg c] at e
        cases e
    | _ => cases e
  | _ => cases e
def sAdd : Va → Va → Option Va := fun a b => match a, b with
  | .str l, .str m => if l.length + m.length ≤ sizeLine then some (.str (l ++ m)) else none
  | _, _ => none
theorem str_app (l m : List Nat) : (⟨l.toArray⟩ : Str) ++ ⟨m.toArray⟩ = ⟨(l ++ m).toArray⟩ := by
  show (⟨l.toArray ++ m.toArray⟩ : Str) = _
  rw [List.append_toArray]
theorem p_sAdd : Prim2 X (fun x y H Q => ∃ i j, x = .str i ∧ y = .str j ∧ i.length + j.length ≤ sizeLine ∧ Q (.str (i ++ j)) H) sAdd := fun R S H w1 w2 x y w Q hr h1 h2 e k => by
  cases w1 with
  | str l =>
    cases w2 with
    | str m =>
      have e : (if l.length + m.length ≤ sizeLine then some (Va.str (l ++ m)) else none) = some w := e
      by_cases c : l.length + m.length ≤ sizeLine
      · rw [if_pos c] at e
        cases e
        refine ⟨_, _, h1.str_, h2.str_, by show l.toArray.size + m.toArray.size ≤ sizeLine; simpa using c, ?_⟩
        rw [str_app]
        exact k R H _ hr Ext.refl .mkStr
      · rw [if_neg c] at e
        cases e
    | _ => cases e
  | _ => cases e
def vAdd : Va → Va → Option Va := fun a b => (iAdd a b).or ((lAdd a b).or ((tAddV a b).or (sAdd a b)))
theorem o_add : ∃ r, OpR X (binaryOp .Add) r ∧ Prim2 X r vAdd := ⟨_, op_add.or (op_cat.or (op_catT.or op_add_str)), p_iAdd.or (p_lAdd.or (p_tAdd.or p_sAdd))⟩
def lMul : Va → Va → Option Va := fun a b => match a, b with
  | .lst l, .int k => if -9223372036854775808 ≤ k ∧ k < 9223372036854775808 ∧ l.length * k.toNat ≤ sizeLine then some (.lst (List.replicate k.toNat l).flatten) else none
  | _, _ => none
theorem RepVs.rep {K : PySem.W.Frag} {mg : Str → Option Value} {R : RC} {ws : List Va} {vs : List V} (h : RepVs K mg R ws vs) : ∀ k : Nat, RepVs K mg R (List.replicate k ws).flatten (List.replicate k vs).flatten
  | 0 => .nil
  | k + 1 => by
    rw [List.replicate_succ, List.replicate_succ, List.flatten_cons, List.flatten_cons]
    exact h.append (RepVs.rep h k)
theorem p_lMul : Prim2 X rRep lMul := fun R S H w1 w2 x y w Q hr h1 h2 e k => by
  cases w1 with
  | lst l =>
    cases w2 with
    | int n =>
      have e : (if -9223372036854775808 ≤ n ∧ n < 9223372036854775808 ∧ l.length * n.toNat ≤ sizeLine then some (Va.lst (List.replicate n.toNat l).flatten) else none) = some w := e
      by_cases c : -9223372036854775808 ≤ n ∧ n < 9223372036854775808 ∧ l.length * n.toNat ≤ sizeLine
      · rw [if_pos c] at e
        cases e
        obtain ⟨a, vs, rfl, ha, ra⟩ := h1.lst_
        refine ⟨a, n, vs, rfl, h2.int_, hr.le _ _ ha, by omega, by omega, by rw [RepVs.length ra]; exact c.2.2, fun p hp => ?_⟩
        obtain ⟨n1, n2, n3⟩ := hr.newL hp (ra.rep n.toNat)
        exact k _ _ _ n1 n2 n3
      · rw [if_neg c] at e
        cases e
    | _ => cases e
  | _ => cases e
def vMul : Va → Va → Option Va := fun a b => (iMul a b).or (lMul a b)
theorem o_mul : ∃ r, OpR X (binaryOp .Mult) r ∧ Prim2 X r vMul := ⟨_, op_mul.or op_rep, p_iMul.or p_lMul⟩
theorem o_sub : ∃ r, OpR X (binaryOp .Sub) r ∧ Prim2 X r iSub := ⟨_, op_sub, p_iSub⟩
theorem o_div : ∃ r, OpR X (binaryOp .FloorDiv) r ∧ Prim2 X r iDiv := ⟨_, op_fdivN, p_iDiv⟩
theorem o_mod : ∃ r, OpR X (binaryOp .Mod) r ∧ Prim2 X r iMod := ⟨_, op_modN, p_iMod⟩
theorem o_pow : ∃ r, OpR X (binaryOp .Pow) r ∧ Prim2 X r iPow := ⟨_, op_pow, p_iPow⟩
theorem o_lt : ∃ r, OpR X (compareOp .Lt) r ∧ Prim2 X r iLt := ⟨_, op_lt, p_iLt⟩
theorem o_le : ∃ r, OpR X (compareOp .LtE) r ∧ Prim2 X r iLe := ⟨_, op_le, p_iLe⟩
theorem o_gt : ∃ r, OpR X (compareOp .Gt) r ∧ Prim2 X r iGt := ⟨_, op_gt, p_iGt⟩
theorem o_ge : ∃ r, OpR X (compareOp .GtE) r ∧ Prim2 X r iGe := ⟨_, op_ge, p_iGe⟩
/-! ### == -/
/-- data that is compared as it looks: no truths, depth at most n -/
def cl : Nat → Va → Bool
  | 0, w => match w with
    | .non => true
    | .int _ => true
    | .str l => l.all (· < 1114112)
    | _ => false
  | n + 1, w => match w with
    | .non => true
    | .int _ => true
    | .str l => l.all (· < 1114112)
    | .tup l => l.all (cl n)
    | .lst l => l.all (cl n)
    | _ => false
theorem cl_non (n : Nat) : cl n .non = true := by cases n <;> rfl
theorem cl_int (n : Nat) (i : Int) : cl n (.int i) = true := by cases n <;> rfl
theorem cl_str (n : Nat) (l : List Nat) : cl n (.str l) = l.all (· < 1114112) := by cases n <;> rfl
theorem cl_bl (n : Nat) (l : Bool) : cl n (.bl l) = false := by cases n <;> rfl
theorem cl_scr (n : Nat) (l : List Int) : cl n (.scr l) = false := by cases n <;> rfl
theorem cl_ref (n : Nat) (l : Nat) : cl n (.ref l) = false := by cases n <;> rfl
theorem cl_fn (n : Nat) (l : String) : cl n (.fn l) = false := by cases n <;> rfl
theorem cl_exc (n : Nat) (l : String) (a : Option Int) : cl n (.exc l a) = false := by cases n <;> rfl
theorem cl_ty (n : Nat) (l : String) : cl n (.ty l) = false := by cases n <;> rfl
theorem cl_tup {n : Nat} {l : List Va} (h : cl n (.tup l) = true) : ∃ m, n = m + 1 ∧ l.all (cl m) = true := by
  cases n with
  | zero => cases h
  | succ m => exact ⟨m, rfl, h⟩
theorem cl_lst {n : Nat} {l : List Va} (h : cl n (.lst l) = true) : ∃ m, n = m + 1 ∧ l.all (cl m) = true := by
  cases n with
  | zero => cases h
  | succ m => exact ⟨m, rfl, h⟩
mutual
def pd : Va → PyData
  | .non => .none
  | .bl b => .bool b
  | .int i => .int i
  | .str l => .str ⟨l.toArray⟩
  | .tup l => .tuple (pds l)
  | .lst l => .list (pds l)
  | _ => .none
def pds : List Va → List PyData
  | [] => []
  | w :: ws => pd w :: pds ws
end
theorem str_eq (l m : List Nat) : ((⟨l.toArray⟩ : Str) == ⟨m.toArray⟩) = decide (l = m) := by
  by_cases c : l = m
  · subst c
    simp
  · rw [decide_eq_false c]
    exact beq_eq_false_iff_ne.mpr fun z => c (by
      have := congrArg (fun s : Str => s.cps.toList) z
      simpa using this)
mutual
theorem eqv_cl : ∀ (a b : Va) (n m : Nat), cl n a = true → cl m b = true → PyData.eqv (pd a) (pd b) = decide (a = b)
  | .non, b, n, m, h, h' => by cases b <;> first | (simp [cl_bl, cl_scr, cl_ref, cl_fn, cl_exc, cl_ty] at h'; done) | (simp [pd, PyData.eqv]; done)
  | .int i, b, n, m, h, h' => by
    cases b <;> first | (simp [cl_bl, cl_scr, cl_ref, cl_fn, cl_exc, cl_ty] at h'; done) | (simp [pd, PyData.eqv, Bool.beq_eq_decide_eq]; done)
  | .str l, b, n, m, h, h' => by
    cases b <;> first | (simp [pd, PyData.eqv, str_eq]; done) | (simp [cl_bl, cl_scr, cl_ref, cl_fn, cl_exc, cl_ty] at h'; done) | skip
  | .bl _, b, n, m, h, h' => by simp [cl_bl] at h
  | .scr _, b, n, m, h, h' => by simp [cl_scr] at h
  | .ref _, b, n, m, h, h' => by simp [cl_ref] at h
  | .fn _, b, n, m, h, h' => by simp [cl_fn] at h
  | .exc _ _, b, n, m, h, h' => by simp [cl_exc] at h
  | .ty _, b, n, m, h, h' => by simp [cl_ty] at h
  | .tup l, b, n, m, h, h' => by
    obtain ⟨k, rfl, h⟩ := cl_tup h
    cases b with
    | tup l' =>
      obtain ⟨k', rfl, h'⟩ := cl_tup h'
      simp only [pd, PyData.eqv, Va.tup.injEq]
      exact eqv_cls l l' k k' h h'
    | non => simp [pd, PyData.eqv]
    | int _ => simp [pd, PyData.eqv]
    | str _ => simp [pd, PyData.eqv]
    | lst _ => simp [pd, PyData.eqv]
    | _ => simp [cl_bl, cl_scr, cl_ref, cl_fn, cl_exc, cl_ty] at h'
  | .lst l, b, n, m, h, h' => by
    obtain ⟨k, rfl, h⟩ := cl_lst h
    cases b with
    | lst l' =>
      obtain ⟨k', rfl, h'⟩ := cl_lst h'
      simp only [pd, PyData.eqv, Va.lst.injEq]
      exact eqv_cls l l' k k' h h'
    | non => simp [pd, PyData.eqv]
    | int _ => simp [pd, PyData.eqv]
    | str _ => simp [pd, PyData.eqv]
    | tup _ => simp [pd, PyData.eqv]
    | _ => simp [cl_bl, cl_scr, cl_ref, cl_fn, cl_exc, cl_ty] at h'
theorem eqv_cls : ∀ (a b : List Va) (n m : Nat), a.all (cl n) = true → b.all (cl m) = true → PyData.eqvAll (pds a) (pds b) = decide (a = b)
  | [], b, n, m, h, h' => by cases b <;> simp [pds, PyData.eqvAll]
  | w :: ws, b, n, m, h, h' => by
    cases b with
    | nil => simp [pds, PyData.eqvAll]
    | cons u us =>
      simp only [List.all_cons, Bool.and_eq_true] at h h'
      simp only [pds, PyData.eqvAll]
      rw [eqv_cl w u n m h.1 h'.1, eqv_cls ws us n m h.2 h'.2]
      simp only [List.cons.injEq, Bool.decide_and]
end
mutual
theorem cl_shape : ∀ (a : Va) (n : Nat), cl n a = true → (pd a).canLay0 = true ∧ (pd a).depth ≤ n
  | .non, n, h => by simp [pd, PyData.canLay0, PyData.depth]
  | .int _, n, h => by simp [pd, PyData.canLay0, PyData.depth]
  | .str l, n, h => by
    rw [cl_str] at h
    simp only [pd, PyData.canLay0, PyData.depth]
    exact ⟨by show (l.toArray.all fun x => decide (x < 1114112)) = true; simpa using h, by omega⟩
  | .bl _, n, h => by simp [cl_bl] at h
  | .scr _, n, h => by simp [cl_scr] at h
  | .ref _, n, h => by simp [cl_ref] at h
  | .fn _, n, h => by simp [cl_fn] at h
  | .exc _ _, n, h => by simp [cl_exc] at h
  | .ty _, n, h => by simp [cl_ty] at h
  | .tup l, n, h => by
    obtain ⟨k, rfl, h⟩ := cl_tup h
    have := cl_shapes l k h
    simp only [pd, PyData.canLay0, PyData.depth]
    exact ⟨this.1, by have := this.2; omega⟩
  | .lst l, n, h => by
    obtain ⟨k, rfl, h⟩ := cl_lst h
    have := cl_shapes l k h
    simp only [pd, PyData.canLay0, PyData.depth]
    exact ⟨this.1, by have := this.2; omega⟩
theorem cl_shapes : ∀ (a : List Va) (n : Nat), a.all (cl n) = true → PyData.canLayAll0 (pds a) = true ∧ PyData.depthAll (pds a) ≤ n
  | [], n, h => by simp [pds, PyData.canLayAll0, PyData.depthAll]
  | w :: ws, n, h => by
    simp only [List.all_cons, Bool.and_eq_true] at h
    have h1 := cl_shape w n h.1
    have h2 := cl_shapes ws n h.2
    simp only [pds, PyData.canLayAll0, PyData.depthAll, Bool.and_eq_true]
    exact ⟨⟨h1.1, h2.1⟩, by omega⟩
end
theorem cl_shaped {a : Va} (h : cl 8 a = true) : SeqAt.shaped (pd a) = true := by
  obtain ⟨h1, h2⟩ := cl_shape a 8 h
  unfold SeqAt.shaped
  rw [Bool.and_eq_true]
  exact ⟨h1, decide_eq_true (by omega)⟩
/-- what stands for such data is its reading -/
theorem dp_of {K : PySem.W.Frag} {mg : Str → Option Value} {R : RC} {S : Store} {H : Hp} (hr : Rel K mg R S H) : ∀ (a : Va) (v : V) (n : Nat), cl n a = true → RepV K mg R a v → Dp K H v (pd a) := by
  have both : ∀ (n : Nat) (a : Va) (v : V), cl n a = true → RepV K mg R a v → Dp K H v (pd a) := by
    intro n
    induction n with
    | zero =>
      intro a v h r
      cases a with
      | non => rw [r.non_]; exact .non
      | int i => rw [r.int_]; exact .int i
      | str l => rw [r.str_]; exact .str _
      | _ => cases h
    | succ n ih =>
      have all : ∀ (l : List Va) (vs : List V), l.all (cl n) = true → RepVs K mg R l vs → DpAll K H vs (pds l) := by
        intro l
        induction l with
        | nil =>
          intro vs _ r
          unfold RepVs at r
          subst r
          exact .nil
        | cons w ws ihl =>
          intro vs h r
          unfold RepVs at r
          obtain ⟨v, rr, rfl, r1, r2⟩ := r
          simp only [List.all_cons, Bool.and_eq_true] at h
          exact .cons (ih w v h.1 r1) (ihl rr h.2 r2)
      intro a v h r
      cases a with
      | non => rw [r.non_]; exact .non
      | int i => rw [r.int_]; exact .int i
      | str l => rw [r.str_]; exact .str _
      | tup l =>
        obtain ⟨p, vs, rfl, ht, rs⟩ := r.tup_
        exact .tup (hr.sqT ht) (all l vs h rs)
      | lst l =>
        obtain ⟨p, vs, rfl, ht, rs⟩ := r.lst_
        exact .lst (SqL.of (hr.le _ _ ht)) (all l vs h rs)
      | _ => cases h
  exact fun a v n h r => both n a v h r
/-- a == b -/
def vEq (neg : Bool) : Va → Va → Option Va := fun a b => match a, b with
  | .bl x, .bl y => some (.bl (if neg then !decide (x = y) else decide (x = y)))
  | a, b => if cl 8 a && cl 8 b then some (.bl (if neg then !decide (a = b) else decide (a = b))) else none
theorem vEq_of {neg : Bool} {a b w : Va} (h : vEq neg a b = some w) : w = .bl (if neg then !decide (a = b) else decide (a = b)) ∧ ((∃ x y, a = .bl x ∧ b = .bl y) ∨ (cl 8 a = true ∧ cl 8 b = true)) := by
  have key : ∀ (a b : Va), (if (cl 8 a && cl 8 b) = true then some (Va.bl (if neg then !decide (a = b) else decide (a = b))) else none) = some w → w = .bl (if neg then !decide (a = b) else decide (a = b)) ∧ ((∃ x y, a = .bl x ∧ b = .bl y) ∨ (cl 8 a = true ∧ cl 8 b = true)) := fun a b h => by
    by_cases c : (cl 8 a && cl 8 b) = true
    · rw [if_pos c] at h
      rw [Bool.and_eq_true] at c
      exact ⟨(Option.some.inj h).symm, .inr c⟩
    · rw [if_neg c] at h
      cases h
  cases a with
  | bl x =>
    cases b with
    | bl y =>
      have h : some (Va.bl (if neg then !decide (x = y) else decide (x = y))) = some w := h
      refine ⟨?_, .inl ⟨x, y, rfl, rfl⟩⟩
      rw [← Option.some.inj h]
      simp only [Va.bl.injEq]
    | _ => exact key _ _ h
  | _ => exact key _ _ h
theorem dec_bl2 (x y : Bool) : decide (V.bl x = V.bl y) = decide (Va.bl x = Va.bl y) := by
  simp only [V.bl.injEq, Va.bl.injEq]
theorem o_eq (hu : X.A.units + 64 < cLine) : ∃ r, OpR X (compareOp .Eq) r ∧ Prim2 X r (vEq false) := ⟨_, op_eq.or (op_eqD hu), fun R S H w1 w2 x y w Q hr h1 h2 e k => by
  obtain ⟨rfl, h | ⟨h, h'⟩⟩ := vEq_of e
  · obtain ⟨a, b, rfl, rfl⟩ := h
    rw [h1.bl_, h2.bl_]
    refine .inl ⟨rfl, ?_⟩
    rw [dec_bl2]
    exact k R H _ hr Ext.refl .mkBl
  · refine .inr ⟨_, _, dp_of hr w1 x 8 h h1, dp_of hr w2 y 8 h' h2, cl_shaped h, cl_shaped h', ?_⟩
    rw [eqv_cl w1 w2 8 8 h h']
    exact k R H _ hr Ext.refl .mkBl⟩
theorem o_ne (hu : X.A.units + 64 < cLine) : ∃ r, OpR X (compareOp .NotEq) r ∧ Prim2 X r (vEq true) := ⟨_, op_ne.or (op_neD hu), fun R S H w1 w2 x y w Q hr h1 h2 e k => by
  obtain ⟨rfl, h | ⟨h, h'⟩⟩ := vEq_of e
  · obtain ⟨a, b, rfl, rfl⟩ := h
    rw [h1.bl_, h2.bl_]
    refine .inl ⟨rfl, ?_⟩
    rw [dec_bl2]
    exact k R H _ hr Ext.refl .mkBl
  · refine .inr ⟨_, _, dp_of hr w1 x 8 h h1, dp_of hr w2 y 8 h' h2, cl_shaped h, cl_shaped h', ?_⟩
    rw [eqv_cl w1 w2 8 8 h h']
    exact k R H _ hr Ext.refl .mkBl⟩
end
end Mi
end
section
/-! Mi, part I: what is built in, by values (second part). -/
namespace Mi
open PySem PySem.Spec PyProof.Rows L2
section
variable {X : Cx}
/-! ### is None -/
theorem RepV.isN {K : PySem.W.Frag} {mg : Str → Option Value} {R : RC} {w : Va} {v : V} (h : RepV K mg R w v) : decide (v = .non) = decide (w = .non) := by
  cases w with
  | non => rw [h.non_]; simp
  | bl b => rw [h.bl_]; simp
  | int b => rw [h.int_]; simp
  | str b => rw [h.str_]; simp
  | tup l => obtain ⟨a, vs, rfl, _⟩ := h.tup_; simp
  | lst l => obtain ⟨a, vs, rfl, _⟩ := h.lst_; simp
  | scr l => obtain ⟨a, rfl, _⟩ := h.scr_; simp
  | ref l => obtain ⟨a, rfl, _⟩ := h.ref_; simp
  | fn l => obtain ⟨a, rfl, _⟩ := h.fn_; simp
  | ty l => rw [h.ty_]; simp
  | exc c a =>
    unfold RepV at h
    obtain ⟨a, C, d, rfl, _⟩ := h
    simp
def vIsN (neg : Bool) : Va → Va → Option Va := fun a b => match b with
  | .non => some (.bl (if neg then !decide (a = .non) else decide (a = .non)))
  | _ => none
theorem o_is : ∃ r, OpR X (compareOp .Is) r ∧ Prim2 X r (vIsN false) := ⟨_, op_isN, fun R S H w1 w2 x y w Q hr h1 h2 e k => by
  cases w2 with
  | non =>
    cases e
    refine ⟨h2.non_, ?_⟩
    rw [h1.isN]
    exact k R H _ hr Ext.refl .mkBl
  | _ => cases e⟩
theorem o_isnot : ∃ r, OpR X (compareOp .IsNot) r ∧ Prim2 X r (vIsN true) := ⟨_, op_notN, fun R S H w1 w2 x y w Q hr h1 h2 e k => by
  cases w2 with
  | non =>
    cases e
    refine ⟨h2.non_, ?_⟩
    rw [h1.isN]
    exact k R H _ hr Ext.refl .mkBl
  | _ => cases e⟩
/-! ### in -/
def flatW : Va → Bool
  | .non => true
  | .int _ => true
  | .str _ => true
  | _ => false
theorem flat_ok {K : PySem.W.Frag} {mg : Str → Option Value} {R : RC} {w : Va} {v : V} (h : RepV K mg R w v) (f : flatW w = true) : flatV v = true := by
  cases w with
  | non => rw [h.non_] <;> rfl
  | int i => rw [h.int_] <;> rfl
  | str i => rw [h.str_] <;> rfl
  | _ => cases f
theorem eqV_ok {K : PySem.W.Frag} {mg : Str → Option Value} {R : RC} {w u : Va} {v x : V} (h : RepV K mg R w v) (h' : RepV K mg R u x) (f : flatW w = true) (f' : flatW u = true) : eqV v x = decide (w = u) := by
  cases w with
  | non =>
    rw [h.non_]
    cases u with
    | non => rw [h'.non_]; simp [eqV]
    | int i => rw [h'.int_]; simp [eqV]
    | str i => rw [h'.str_]; simp [eqV]
    | _ => cases f'
  | int i =>
    rw [h.int_]
    cases u with
    | non => rw [h'.non_]; simp [eqV]
    | int i => rw [h'.int_]; simp [eqV, Bool.beq_eq_decide_eq]
    | str i => rw [h'.str_]; simp [eqV]
    | _ => cases f'
  | str i =>
    rw [h.str_]
    cases u with
    | non => rw [h'.non_]; simp [eqV]
    | int i => rw [h'.int_]; simp [eqV]
    | str i => rw [h'.str_]; simp only [eqV, Va.str.injEq]; exact str_eq _ _
    | _ => cases f'
  | _ => cases f
theorem flats_ok {K : PySem.W.Frag} {mg : Str → Option Value} {R : RC} : ∀ {ws : List Va} {vs : List V}, RepVs K mg R ws vs → ws.all flatW = true → vs.all flatV = true
  | [], vs, h, _ => by
    unfold RepVs at h
    subst h
    rfl
  | w :: ws, vs, h, f => by
    unfold RepVs at h
    obtain ⟨v, r, rfl, h1, h2⟩ := h
    simp only [List.all_cons, Bool.and_eq_true] at f ⊢
    exact ⟨flat_ok h1 f.1, flats_ok h2 f.2⟩
theorem in_ok {K : PySem.W.Frag} {mg : Str → Option Value} {R : RC} {u : Va} {x : V} (h' : RepV K mg R u x) (f' : flatW u = true) : ∀ {ws : List Va} {vs : List V}, RepVs K mg R ws vs → ws.all flatW = true → inV x vs = decide (u ∈ ws)
  | [], vs, h, _ => by
    unfold RepVs at h
    subst h
    simp [inV]
  | w :: ws, vs, h, f => by
    unfold RepVs at h
    obtain ⟨v, r, rfl, h1, h2⟩ := h
    simp only [List.all_cons, Bool.and_eq_true] at f
    have ih := in_ok h' f' h2 f.2
    unfold inV at ih ⊢
    rw [List.any_cons, ih, eqV_ok h1 h' f.1 f']
    by_cases c : w = u
    · subst c
      simp
    · have c' : ¬ u = w := fun z => c z.symm
      simp [c, c']
def seqIn (neg : Bool) (a : Va) (l : List Va) : Option Va := if flatW a && l.all flatW then some (.bl (if neg then !decide (a ∈ l) else decide (a ∈ l))) else none
def vInS (neg : Bool) : Va → Va → Option Va := fun a b => match b with
  | .lst l => seqIn neg a l
  | .tup l => seqIn neg a l
  | _ => none
theorem seqIn_of {neg : Bool} {a w : Va} {l : List Va} (h : seqIn neg a l = some w) : flatW a = true ∧ l.all flatW = true ∧ w = .bl (if neg then !decide (a ∈ l) else decide (a ∈ l)) := by
  unfold seqIn at h
  by_cases c : (flatW a && l.all flatW) = true
  · rw [if_pos c] at h
    rw [Bool.and_eq_true] at c
    exact ⟨c.1, c.2, (Option.some.inj h).symm⟩
  · rw [if_neg c] at h
    cases h
theorem p_inS (neg : Bool) : Prim2 X (rIn X.K neg) (vInS neg) := fun R S H w1 w2 x y w Q hr h1 h2 e k => by
  cases w2 with
  | lst l =>
    obtain ⟨f1, f2, rfl⟩ := seqIn_of (show seqIn neg w1 l = some w from e)
    obtain ⟨p, vs, rfl, hp, rs⟩ := h2.lst_
    refine ⟨p, vs, rfl, .inl (SqL.of (hr.le _ _ hp)), flat_ok h1 f1, flats_ok rs f2, ?_⟩
    rw [in_ok h1 f1 rs f2]
    exact k R H _ hr Ext.refl .mkBl
  | tup l =>
    obtain ⟨f1, f2, rfl⟩ := seqIn_of (show seqIn neg w1 l = some w from e)
    obtain ⟨p, vs, rfl, hp, rs⟩ := h2.tup_
    refine ⟨p, vs, rfl, .inr (hr.sqT hp), flat_ok h1 f1, flats_ok rs f2, ?_⟩
    rw [in_ok h1 f1 rs f2]
    exact k R H _ hr Ext.refl .mkBl
  | _ => cases e
def vInT (neg : Bool) : Va → Va → Option Va := fun a b => match a, b with
  | .str [c], .str l => some (.bl (if neg then !decide (c ∈ l) else decide (c ∈ l)))
  | _, _ => none
theorem vInT_of {neg : Bool} {a b w : Va} (h : vInT neg a b = some w) : ∃ c l, a = .str [c] ∧ b = .str l ∧ w = .bl (if neg then !decide (c ∈ l) else decide (c ∈ l)) := by
  unfold vInT at h
  split at h
  · rename_i c l
    exact ⟨c, l, rfl, rfl, (Option.some.inj h).symm⟩
  · cases h
theorem o_in : ∃ r, OpR X (compareOp .In) r ∧ Prim2 X r (fun a b => (vInS false a b).or (vInT false a b)) := ⟨_, op_in_seq.or op_in_sign, (p_inS false).or fun R S H w1 w2 x y w Q hr h1 h2 e k => by
  obtain ⟨c, l, rfl, rfl, rfl⟩ := vInT_of e
  refine ⟨c, ⟨l.toArray⟩, h1.str_, h2.str_, ?_⟩
  rw [List.toList_toArray]
  exact k R H _ hr Ext.refl .mkBl⟩
theorem o_notin : ∃ r, OpR X (compareOp .NotIn) r ∧ Prim2 X r (fun a b => (vInS true a b).or (vInT true a b)) := ⟨_, op_notIn_seq.or op_notIn_sign, (p_inS true).or fun R S H w1 w2 x y w Q hr h1 h2 e k => by
  obtain ⟨c, l, rfl, rfl, rfl⟩ := vInT_of e
  refine ⟨c, ⟨l.toArray⟩, h1.str_, h2.str_, ?_⟩
  rw [List.toList_toArray]
  exact k R H _ hr Ext.refl .mkBl⟩
def vIn (neg : Bool) : Va → Va → Option Va := fun a b => (vInS neg a b).or (vInT neg a b)
/-! ### o[i] -/
def vIx : Va → Va → Option Va := fun a b => match a, b with
  | .lst l, .int i => atI l i
  | .tup l, .int i => atI l i
  | .scr l, .int i => (atI l i).map .int
  | .str l, .int i => if l.length ≤ sizeLine then (atI l i).map fun c => .str [c] else none
  | _, _ => none
theorem at_ok {K : PySem.W.Frag} {mg : Str → Option Value} {R : RC} {ws : List Va} {vs : List V} {i : Int} {w : Va} (r : RepVs K mg R ws vs) (h : atI ws i = some w) : ∃ v, atI vs i = some v ∧ RepV K mg R w v := by
  unfold atI at h ⊢
  rw [RepVs.length r]
  cases q : ixN ws.length i with
  | none => rw [q] at h; cases h
  | some j =>
    rw [q] at h
    exact r.get h
theorem at_map {α β : Type} {f : α → β} {l : List α} {i : Int} : atI (l.map f) i = (atI l i).map f := by
  unfold atI
  rw [List.length_map]
  cases ixN l.length i with
  | none => rfl
  | some j => exact List.getElem?_map ..
theorem o_ix : Prim2 X (rIx X.K) vIx := fun R S H w1 w2 x y w Q hr h1 h2 e k => by
  cases w2 with
  | int i =>
    cases w1 with
    | lst l =>
      obtain ⟨p, vs, rfl, hp, rs⟩ := h1.lst_
      obtain ⟨v, hv, rv⟩ := at_ok rs (show atI l i = some w from e)
      exact .inl ⟨p, vs, i, v, rfl, h2.int_, SqL.of (hr.le _ _ hp), hv, k R H _ hr Ext.refl rv⟩
    | tup l =>
      obtain ⟨p, vs, rfl, hp, rs⟩ := h1.tup_
      obtain ⟨v, hv, rv⟩ := at_ok rs (show atI l i = some w from e)
      exact .inr (.inl ⟨p, vs, i, v, rfl, h2.int_, hr.sqT hp, hv, k R H _ hr Ext.refl rv⟩)
    | scr l =>
      obtain ⟨p, rfl, hp⟩ := h1.scr_
      have e : (atI l i).map Va.int = some w := e
      cases q : atI l i with
      | none => rw [q] at e; cases e
      | some n =>
        rw [q] at e
        cases e
        refine .inl ⟨p, _, i, .int n, rfl, h2.int_, hr.sqL hp, ?_, k R H _ hr Ext.refl .mkInt⟩
        rw [at_map, q]
        rfl
    | str l =>
      have e : (if l.length ≤ sizeLine then (atI l i).map fun c => Va.str [c] else none) = some w := e
      by_cases c : l.length ≤ sizeLine
      · rw [if_pos c] at e
        cases q : atI l i with
        | none => rw [q] at e; cases e
        | some n =>
          rw [q] at e
          cases e
          refine .inr (.inr ⟨⟨l.toArray⟩, i, n, h1.str_, h2.int_, by show l.toArray.size ≤ sizeLine; simpa using c, ?_, k R H _ hr Ext.refl .mkStr⟩)
          rw [List.toList_toArray]
          exact q
      · rw [if_neg c] at e
        cases e
    | _ => cases e
  | _ => cases w1 <;> cases e
/-! ### -i -/
def vNeg : Va → Option Va
  | .int i => some (.int (-i))
  | _ => none
theorem o_neg : ∃ r, UnR X (unaryOp .USub) r ∧ Prim1 X r vNeg := ⟨_, un_neg, fun R S H w1 x w Q hr h1 e k => by
  cases w1 with
  | int i =>
    cases e
    exact ⟨i, h1.int_, k R H _ hr Ext.refl .mkInt⟩
  | _ => cases e⟩
/-! ### calls -/
theorem rv1 {K : PySem.W.Frag} {mg : Str → Option Value} {R : RC} {w : Va} {vs : List V} (h : RepVs K mg R [w] vs) : ∃ v, vs = [v] ∧ RepV K mg R w v := by
  unfold RepVs at h
  obtain ⟨v, r, rfl, h1, h2⟩ := h
  unfold RepVs at h2
  subst h2
  exact ⟨v, rfl, h1⟩
theorem rv2 {K : PySem.W.Frag} {mg : Str → Option Value} {R : RC} {w u : Va} {vs : List V} (h : RepVs K mg R [w, u] vs) : ∃ v x, vs = [v, x] ∧ RepV K mg R w v ∧ RepV K mg R u x := by
  unfold RepVs at h
  obtain ⟨v, r, rfl, h1, h2⟩ := h
  obtain ⟨x, rfl, h3⟩ := rv1 h2
  exact ⟨v, x, rfl, h1, h3⟩
def one (f : Va → Option Va) : List Va → Option Va := fun ws => match ws with
  | [w] => f w
  | _ => none
def two (f : Va → Va → Option Va) : List Va → Option Va := fun ws => match ws with
  | [w, u] => f w u
  | _ => none
theorem one_of {f : Va → Option Va} {ws : List Va} {w : Va} (h : one f ws = some w) : ∃ a, ws = [a] ∧ f a = some w := by
  match ws, h with
  | [a], h => exact ⟨a, rfl, h⟩
  | [], h => cases h
  | _ :: _ :: _, h => cases h
theorem two_of {f : Va → Va → Option Va} {ws : List Va} {w : Va} (h : two f ws = some w) : ∃ a b, ws = [a, b] ∧ f a b = some w := by
  match ws, h with
  | [a, b], h => exact ⟨a, b, rfl, h⟩
  | [], h => cases h
  | [_], h => cases h
  | _ :: _ :: _ :: _, h => cases h
def vLen : Va → Option Va
  | .lst l => some (.int l.length)
  | .tup l => some (.int l.length)
  | .scr l => some (.int l.length)
  | .str l => if l.length ≤ sizeLine then some (.int l.length) else none
  | _ => none
theorem c_len : ∃ r, CallR X (.builtin "len") r ∧ PrimA X r (one vLen) := ⟨_, call_len, fun R S H ws vs w Q hr h e k => by
  obtain ⟨a, rfl, e0⟩ := one_of e
  have e := e0
  obtain ⟨v, rfl, h0⟩ := rv1 h
  have h := h0
  cases a with
  | lst l =>
    cases e
    obtain ⟨p, us, rfl, hp, rs⟩ := h.lst_
    exact ⟨_, us.length, rfl, .inl ⟨us, SqL.of (hr.le _ _ hp), rfl⟩, k R H _ hr Ext.refl (by rw [RepVs.length rs]; exact .mkInt)⟩
  | tup l =>
    cases e
    obtain ⟨p, us, rfl, hp, rs⟩ := h.tup_
    exact ⟨_, us.length, rfl, .inr ⟨us, hr.sqT hp, rfl⟩, k R H _ hr Ext.refl (by rw [RepVs.length rs]; exact .mkInt)⟩
  | scr l =>
    cases e
    obtain ⟨p, rfl, hp⟩ := h.scr_
    exact ⟨_, (l.map V.int).length, rfl, .inl ⟨_, hr.sqL hp, rfl⟩, k R H _ hr Ext.refl (by rw [List.length_map]; exact .mkInt)⟩
  | str l =>
    have e : (if l.length ≤ sizeLine then some (Va.int l.length) else none) = some w := e
    by_cases c : l.length ≤ sizeLine
    · rw [if_pos c] at e
      cases e
      rw [h.str_]
      exact ⟨_, l.length, rfl, ⟨by show l.toArray.size ≤ sizeLine; simpa using c, by show _ = l.toArray.size; simp⟩, k R H _ hr Ext.refl .mkInt⟩
    · rw [if_neg c] at e
      cases e
  | _ => cases e⟩
def vInt : Va → Option Va
  | .int i => some (.int i)
  | .bl b => some (.int (if b then 1 else 0))
  | _ => none
theorem c_int : ∃ r, CallR X (.type "int") r ∧ PrimA X r (one vInt) := ⟨_, call_int1, fun R S H ws vs w Q hr h e k => by
  obtain ⟨a, rfl, e0⟩ := one_of e
  have e := e0
  obtain ⟨v, rfl, h0⟩ := rv1 h
  have h := h0
  cases a with
  | int i =>
    cases e
    rw [h.int_]
    exact .inl ⟨i, rfl, k R H _ hr Ext.refl .mkInt⟩
  | bl b =>
    cases e
    rw [h.bl_]
    exact .inr ⟨b, rfl, k R H _ hr Ext.refl .mkInt⟩
  | _ => cases e⟩
def vAbs : Va → Option Va
  | .int i => some (.int (if i < 0 then -i else i))
  | _ => none
theorem c_abs : ∃ r, CallR X (.builtin "abs") r ∧ PrimA X r (one vAbs) := ⟨_, call_abs, fun R S H ws vs w Q hr h e k => by
  obtain ⟨a, rfl, e0⟩ := one_of e
  have e := e0
  obtain ⟨v, rfl, h0⟩ := rv1 h
  have h := h0
  cases a with
  | int i =>
    cases e
    rw [h.int_]
    exact ⟨i, rfl, k R H _ hr Ext.refl .mkInt⟩
  | _ => cases e⟩
def vMax2 : Va → Va → Option Va := fun a b => match a, b with
  | .int i, .int j => some (.int (if j > i then j else i))
  | _, _ => none
def vMin2 : Va → Va → Option Va := fun a b => match a, b with
  | .int i, .int j => some (.int (if j < i then j else i))
  | _, _ => none
theorem c_max2 (hc : X.calm = true) : ∃ r, CallR X (.builtin "max") r ∧ PrimA X r (two vMax2) := ⟨_, call_max2 hc, fun R S H ws vs w Q hr h e k => by
  obtain ⟨a, b, rfl, e0⟩ := two_of e
  have e := e0
  obtain ⟨v, x, rfl, h1, h2⟩ := rv2 h
  cases a with
  | int i =>
    cases b with
    | int j =>
      cases e
      rw [h1.int_, h2.int_]
      exact ⟨i, j, rfl, k R H _ hr Ext.refl .mkInt⟩
    | _ => cases e
  | _ => cases e⟩
theorem c_min2 (hc : X.calm = true) : ∃ r, CallR X (.builtin "min") r ∧ PrimA X r (two vMin2) := ⟨_, call_min2 hc, fun R S H ws vs w Q hr h e k => by
  obtain ⟨a, b, rfl, e0⟩ := two_of e
  have e := e0
  obtain ⟨v, x, rfl, h1, h2⟩ := rv2 h
  cases a with
  | int i =>
    cases b with
    | int j =>
      cases e
      rw [h1.int_, h2.int_]
      exact ⟨i, j, rfl, k R H _ hr Ext.refl .mkInt⟩
    | _ => cases e
  | _ => cases e⟩
/-- the ints of a list -/
def intsOf : List Va → Option (List Int)
  | [] => some []
  | .int i :: r => (intsOf r).map (i :: ·)
  | _ :: _ => none
def blsOf : List Va → Option (List Bool)
  | [] => some []
  | .bl i :: r => (blsOf r).map (i :: ·)
  | _ :: _ => none
theorem intsOf_map (ns : List Int) : intsOf (ns.map Va.int) = some ns := by
  induction ns with
  | nil => rfl
  | cons n r ih => simp only [List.map_cons, intsOf, ih, Option.map_some]
theorem blsOf_map (ns : List Bool) : blsOf (ns.map Va.bl) = some ns := by
  induction ns with
  | nil => rfl
  | cons n r ih => simp only [List.map_cons, blsOf, ih, Option.map_some]
theorem intsOf_eq : ∀ {l : List Va} {ns : List Int}, intsOf l = some ns → l = ns.map Va.int
  | [], ns, h => by cases h; rfl
  | w :: r, ns, h => by
    cases w with
    | int i =>
      have h : (intsOf r).map (i :: ·) = some ns := h
      cases q : intsOf r with
      | none => rw [q] at h; cases h
      | some ms =>
        rw [q] at h
        cases h
        rw [intsOf_eq q]
        rfl
    | _ => cases h
theorem blsOf_eq : ∀ {l : List Va} {ns : List Bool}, blsOf l = some ns → l = ns.map Va.bl
  | [], ns, h => by cases h; rfl
  | w :: r, ns, h => by
    cases w with
    | bl i =>
      have h : (blsOf r).map (i :: ·) = some ns := h
      cases q : blsOf r with
      | none => rw [q] at h; cases h
      | some ms =>
        rw [q] at h
        cases h
        rw [blsOf_eq q]
        rfl
    | _ => cases h
theorem RepVs.ints {K : PySem.W.Frag} {mg : Str → Option Value} {R : RC} : ∀ {ns : List Int} {vs : List V}, RepVs K mg R (ns.map Va.int) vs → vs = ns.map V.int
  | [], vs, h => by
    unfold List.map RepVs at h
    exact h
  | n :: ns, vs, h => by
    unfold List.map RepVs at h
    obtain ⟨v, r, rfl, h1, h2⟩ := h
    rw [h1.int_, RepVs.ints h2]
    rfl
theorem RepVs.bls {K : PySem.W.Frag} {mg : Str → Option Value} {R : RC} : ∀ {ns : List Bool} {vs : List V}, RepVs K mg R (ns.map Va.bl) vs → vs = ns.map V.bl
  | [], vs, h => by
    unfold List.map RepVs at h
    exact h
  | n :: ns, vs, h => by
    unfold List.map RepVs at h
    obtain ⟨v, r, rfl, h1, h2⟩ := h
    rw [h1.bl_, RepVs.bls h2]
    rfl
theorem RepVs.ofInts {K : PySem.W.Frag} {mg : Str → Option Value} {R : RC} : ∀ (ns : List Int), RepVs K mg R (ns.map Va.int) (ns.map V.int)
  | [] => .nil
  | n :: ns => .cons .mkInt (RepVs.ofInts ns)
/-- a list, or the script, of ints -/
def intL : Va → Option (List Int)
  | .lst l => intsOf l
  | .scr l => some l
  | _ => none
theorem intL_ok {K : PySem.W.Frag} {mg : Str → Option Value} {R : RC} {S : Store} {H : Hp} (hr : Rel K mg R S H) {w : Va} {v : V} {ns : List Int} (h : RepV K mg R w v) (e : intL w = some ns) : ∃ a, v = .ref a ∧ SqL K H a (ns.map V.int) := by
  cases w with
  | lst l =>
    have e := intsOf_eq (show intsOf l = some ns from e)
    subst e
    obtain ⟨p, us, rfl, hp, rs⟩ := h.lst_
    rw [rs.ints] at hp
    exact ⟨p, rfl, SqL.of (hr.le _ _ hp)⟩
  | scr l =>
    cases e
    obtain ⟨p, rfl, hp⟩ := h.scr_
    exact ⟨p, rfl, hr.sqL hp⟩
  | _ => cases e
def vSum (w : Va) : Option Va := (intL w).map fun ns => .int ns.sum
theorem c_sum (hc : X.calm = true) : ∃ r, CallR X (.builtin "sum") r ∧ PrimA X r (one vSum) := ⟨_, cr_sum hc, fun R S H ws vs w Q hr h e k => by
  obtain ⟨a, rfl, e0⟩ := one_of e
  have e := e0
  obtain ⟨v, rfl, h0⟩ := rv1 h
  have h := h0
  unfold vSum at e
  cases q : intL a with
  | none => rw [q] at e; cases e
  | some ns =>
    rw [q] at e
    cases e
    obtain ⟨p, rfl, hp⟩ := intL_ok hr h q
    exact ⟨p, ns, rfl, hp, k R H _ hr Ext.refl .mkInt⟩⟩
def maxI (n : Int) (ns : List Int) : Int := ns.foldl (fun a b => if a < b then b else a) n
def minI (n : Int) (ns : List Int) : Int := ns.foldl (fun a b => if b < a then b else a) n
theorem maxI_spec : ∀ (ns : List Int) (n : Int), maxI n ns ∈ n :: ns ∧ ∀ y ∈ n :: ns, y ≤ maxI n ns
  | [], n => ⟨List.mem_cons_self, fun y hy => by
    rw [List.mem_singleton.mp hy]
    exact Int.le_refl _⟩
  | m :: r, n => by
    have ih := maxI_spec r (if n < m then m else n)
    have e : maxI n (m :: r) = maxI (if n < m then m else n) r := rfl
    rw [e]
    refine ⟨?_, fun y hy => ?_⟩
    · rcases List.mem_cons.mp ih.1 with h | h
      · rw [h]
        by_cases c : n < m
        · rw [if_pos c]; simp
        · rw [if_neg c]; simp
      · exact List.mem_cons_of_mem _ (List.mem_cons_of_mem _ h)
    · have hb := ih.2 _ List.mem_cons_self
      rcases List.mem_cons.mp hy with rfl | hy
      · by_cases c : y < m
        · rw [if_pos c] at hb ⊢; omega
        · rw [if_neg c] at hb ⊢; omega
      · rcases List.mem_cons.mp hy with rfl | hy
        · by_cases c : n < y
          · rw [if_pos c] at hb ⊢; omega
          · rw [if_neg c] at hb ⊢; omega
        · exact ih.2 y (List.mem_cons_of_mem _ hy)
theorem minI_spec : ∀ (ns : List Int) (n : Int), minI n ns ∈ n :: ns ∧ ∀ y ∈ n :: ns, minI n ns ≤ y
  | [], n => ⟨List.mem_cons_self, fun y hy => by
    rw [List.mem_singleton.mp hy]
    exact Int.le_refl _⟩
  | m :: r, n => by
    have ih := minI_spec r (if m < n then m else n)
    have e : minI n (m :: r) = minI (if m < n then m else n) r := rfl
    rw [e]
    refine ⟨?_, fun y hy => ?_⟩
    · rcases List.mem_cons.mp ih.1 with h | h
      · rw [h]
        by_cases c : m < n
        · rw [if_pos c]; simp
        · rw [if_neg c]; simp
      · exact List.mem_cons_of_mem _ (List.mem_cons_of_mem _ h)
    · have hb := ih.2 _ List.mem_cons_self
      rcases List.mem_cons.mp hy with rfl | hy
      · by_cases c : m < y
        · rw [if_pos c] at hb ⊢; omega
        · rw [if_neg c] at hb ⊢; omega
      · rcases List.mem_cons.mp hy with rfl | hy
        · by_cases c : y < n
          · rw [if_pos c] at hb ⊢; omega
          · rw [if_neg c] at hb ⊢; omega
        · exact ih.2 y (List.mem_cons_of_mem _ hy)
def vMaxL (w : Va) : Option Va := match intL w with
  | some (n :: ns) => some (.int (maxI n ns))
  | _ => none
def vMinL (w : Va) : Option Va := match intL w with
  | some (n :: ns) => some (.int (minI n ns))
  | _ => none
theorem c_max (hc : X.calm = true) : ∃ r, CallR X (.builtin "max") r ∧ PrimA X r (fun ws => (two vMax2 ws).or (one vMaxL ws)) := by
  obtain ⟨r, h1, h2⟩ := c_max2 (X := X) hc
  refine ⟨_, h1.or (cr_max hc), h2.or fun R S H ws vs w Q hr h e k => ?_⟩
  obtain ⟨a, rfl, e0⟩ := one_of e
  have e := e0
  obtain ⟨v, rfl, h0⟩ := rv1 h
  have h := h0
  unfold vMaxL at e
  cases q : intL a with
  | none => rw [q] at e; cases e
  | some l =>
    rw [q] at e
    cases l with
    | nil => cases e
    | cons n ns =>
      cases e
      obtain ⟨p, rfl, hp⟩ := intL_ok hr h q
      refine ⟨p, n :: ns, rfl, hp, by simp, fun m hm hle => ?_⟩
      obtain ⟨s1, s2⟩ := maxI_spec ns n
      have e1 : m = maxI n ns := by
        have := hle _ s1
        have := s2 _ hm
        omega
      rw [e1]
      exact k R H _ hr Ext.refl .mkInt
theorem c_min (hc : X.calm = true) : ∃ r, CallR X (.builtin "min") r ∧ PrimA X r (fun ws => (two vMin2 ws).or (one vMinL ws)) := by
  obtain ⟨r, h1, h2⟩ := c_min2 (X := X) hc
  refine ⟨_, h1.or (cr_min hc), h2.or fun R S H ws vs w Q hr h e k => ?_⟩
  obtain ⟨a, rfl, e0⟩ := one_of e
  have e := e0
  obtain ⟨v, rfl, h0⟩ := rv1 h
  have h := h0
  unfold vMinL at e
  cases q : intL a with
  | none => rw [q] at e; cases e
  | some l =>
    rw [q] at e
    cases l with
    | nil => cases e
    | cons n ns =>
      cases e
      obtain ⟨p, rfl, hp⟩ := intL_ok hr h q
      refine ⟨p, n :: ns, rfl, hp, by simp, fun m hm hle => ?_⟩
      obtain ⟨s1, s2⟩ := minI_spec ns n
      have e1 : m = minI n ns := by
        have := hle _ s1
        have := s2 _ hm
        omega
      rw [e1]
      exact k R H _ hr Ext.refl .mkInt
def vAll (w : Va) : Option Va := match w with
  | .lst l => (blsOf l).map fun bs => .bl (bs.all id)
  | _ => none
def vAny (w : Va) : Option Va := match w with
  | .lst l => (blsOf l).map fun bs => .bl (bs.any id)
  | _ => none
theorem c_all (hc : X.calm = true) : ∃ r, CallR X (.builtin "all") r ∧ PrimA X r (one vAll) := ⟨_, cr_all hc, fun R S H ws vs w Q hr h e k => by
  obtain ⟨a, rfl, e0⟩ := one_of e
  have e := e0
  obtain ⟨v, rfl, h0⟩ := rv1 h
  have h := h0
  cases a with
  | lst l =>
    have e : (blsOf l).map (fun bs => Va.bl (bs.all id)) = some w := e
    cases q : blsOf l with
    | none => rw [q] at e; cases e
    | some ns =>
      rw [q] at e
      cases e
      have ee := blsOf_eq q
      subst ee
      obtain ⟨p, us, rfl, hp, rs⟩ := h.lst_
      rw [rs.bls] at hp
      exact ⟨p, ns, rfl, SqL.of (hr.le _ _ hp), k R H _ hr Ext.refl .mkBl⟩
  | _ => cases e⟩
theorem c_any (hc : X.calm = true) : ∃ r, CallR X (.builtin "any") r ∧ PrimA X r (one vAny) := ⟨_, cr_any hc, fun R S H ws vs w Q hr h e k => by
  obtain ⟨a, rfl, e0⟩ := one_of e
  have e := e0
  obtain ⟨v, rfl, h0⟩ := rv1 h
  have h := h0
  cases a with
  | lst l =>
    have e : (blsOf l).map (fun bs => Va.bl (bs.any id)) = some w := e
    cases q : blsOf l with
    | none => rw [q] at e; cases e
    | some ns =>
      rw [q] at e
      cases e
      have ee := blsOf_eq q
      subst ee
      obtain ⟨p, us, rfl, hp, rs⟩ := h.lst_
      rw [rs.bls] at hp
      exact ⟨p, ns, rfl, SqL.of (hr.le _ _ hp), k R H _ hr Ext.refl .mkBl⟩
  | _ => cases e⟩
def vList : Va → Option Va
  | .lst l => some (.lst l)
  | .tup l => some (.lst l)
  | .scr l => some (.lst (l.map .int))
  | _ => none
theorem c_list : ∃ r, CallR X (.type "list") r ∧ PrimA X r (one vList) := ⟨_, call_list_of, fun R S H ws vs w Q hr h e k => by
  obtain ⟨a, rfl, e0⟩ := one_of e
  have e := e0
  obtain ⟨v, rfl, h0⟩ := rv1 h
  have h := h0
  cases a with
  | lst l =>
    cases e
    obtain ⟨p, us, rfl, hp, rs⟩ := h.lst_
    refine ⟨p, us, rfl, .inl (SqL.of (hr.le _ _ hp)), fun q hq => ?_⟩
    obtain ⟨n1, n2, n3⟩ := hr.newL hq rs
    exact k _ _ _ n1 n2 n3
  | tup l =>
    cases e
    obtain ⟨p, us, rfl, hp, rs⟩ := h.tup_
    refine ⟨p, us, rfl, .inr (hr.sqT hp), fun q hq => ?_⟩
    obtain ⟨n1, n2, n3⟩ := hr.newL hq rs
    exact k _ _ _ n1 n2 n3
  | scr l =>
    cases e
    obtain ⟨p, rfl, hp⟩ := h.scr_
    refine ⟨p, _, rfl, .inl (hr.sqL hp), fun q hq => ?_⟩
    obtain ⟨n1, n2, n3⟩ := hr.newL hq (RepVs.ofInts l)
    exact k _ _ _ n1 n2 n3
  | _ => cases e⟩
def vTuple : Va → Option Va
  | .lst l => some (.tup l)
  | .tup l => some (.tup l)
  | _ => none
theorem c_tuple : ∃ r, CallR X (.type "tuple") r ∧ PrimA X r (one vTuple) := ⟨_, call_tuple_of, fun R S H ws vs w Q hr h e k => by
  obtain ⟨a, rfl, e0⟩ := one_of e
  have e := e0
  obtain ⟨v, rfl, h0⟩ := rv1 h
  have h := h0
  cases a with
  | lst l =>
    cases e
    obtain ⟨p, us, rfl, hp, rs⟩ := h.lst_
    refine ⟨p, us, rfl, .inl ⟨SqL.of (hr.le _ _ hp), fun q hq => ?_⟩⟩
    obtain ⟨n1, n2, n3⟩ := hr.newT hq rs
    exact k _ _ _ n1 n2 n3
  | tup l =>
    cases e
    obtain ⟨p, us, rfl, hp, rs⟩ := id h.tup_
    exact ⟨p, us, rfl, .inr ⟨hr.sqT hp, k R H _ hr Ext.refl h⟩⟩
  | _ => cases e⟩
/-! ### isinstance, a built-in class -/
def tyName : Va → Option String
  | .non => some "NoneType"
  | .bl _ => some "bool"
  | .int _ => some "int"
  | .str _ => some "str"
  | .tup _ => some "tuple"
  | .lst _ => some "list"
  | _ => none
def isTyB (a b : String) : Option Bool := if ["NoneType", "bool", "int", "str", "tuple", "list"].contains a && ["bool", "int", "str", "tuple", "list"].contains b then some (a == b || (a == "bool" && b == "int")) else none
theorem isTyB_ok {a b : String} {r : Bool} (h : isTyB a b = some r) : kitB a b = some r := by
  have tab : ∀ a ∈ ["NoneType", "bool", "int", "str", "tuple", "list"], ∀ b ∈ ["bool", "int", "str", "tuple", "list"], kitB a b = some (a == b || (a == "bool" && b == "int")) := by decide +kernel
  unfold isTyB at h
  by_cases c : (["NoneType", "bool", "int", "str", "tuple", "list"].contains a && ["bool", "int", "str", "tuple", "list"].contains b) = true
  · rw [if_pos c] at h
    rw [Bool.and_eq_true] at c
    rw [tab a (by simpa using c.1) b (by simpa using c.2)]
    exact h
  · rw [if_neg c] at h
    cases h
theorem tyX_of {K : PySem.W.Frag} {mg : Str → Option Value} {R : RC} {S : Store} {H : Hp} (hr : Rel K mg R S H) {w : Va} {v : V} {n : String} (h : RepV K mg R w v) (e : tyName w = some n) : TyX K H v (.type n) := by
  cases w with
  | non => cases e; rw [h.non_]; exact .base .non
  | bl b => cases e; rw [h.bl_]; exact .base (.bl b)
  | int b => cases e; rw [h.int_]; exact .base (.int b)
  | str b => cases e; rw [h.str_]; exact .base (.str _)
  | tup l =>
    cases e
    obtain ⟨p, us, rfl, hp, rs⟩ := h.tup_
    rcases hr.sqT hp with (hp | ⟨o, hp⟩) | ⟨o, its, m, h1, h2, _⟩
    · exact .base (.tup hp)
    · exact .fTuple hp
    · exact .kTuple h1 h2
  | lst l =>
    cases e
    obtain ⟨p, us, rfl, hp, rs⟩ := h.lst_
    exact .base (.lst (hr.le _ _ hp))
  | _ => cases e
def vIsTy : Va → Va → Option Va := fun a b => match b with
  | .ty t => match tyName a with
    | some n => (isTyB n t).map .bl
    | none => none
  | _ => none
theorem c_isTy : ∃ r, CallR X (.builtin "isinstance") r ∧ PrimA X r (two vIsTy) := ⟨_, call_isi, fun R S H ws vs w Q hr h e k => by
  obtain ⟨a, b, rfl, e0⟩ := two_of e
  have e := e0
  obtain ⟨v, x, rfl, h1, h2⟩ := rv2 h
  cases b with
  | ty t =>
    have e : (match tyName a with | some n => (isTyB n t).map Va.bl | none => none) = some w := e
    cases q : tyName a with
    | none => rw [q] at e; cases e
    | some n =>
      rw [q] at e
      have e : (isTyB n t).map Va.bl = some w := e
      cases q2 : isTyB n t with
      | none => rw [q2] at e; cases e
      | some b =>
        rw [q2] at e
        cases e
        rw [h2.ty_]
        exact ⟨v, .ty t, .type n, .type t, b, rfl, .ty t, tyX_of hr h1 q, kit_ty (isTyB_ok q2), k R H _ hr Ext.refl .mkBl⟩
  | _ => cases e⟩
def vSortI (w : Va) : Option Va := (intL w).map fun ns => .lst ((ns.mergeSort (fun a b => decide (a ≤ b))).map .int)
theorem sorted_uniq : ∀ {l m : List Int}, l.Perm m → l.Pairwise (· ≤ ·) → m.Pairwise (· ≤ ·) → l = m := fun {l m} p h1 h2 => p.eq_of_pairwise (fun a b _ _ h h' => Int.le_antisymm h h') h1 h2
theorem c_sortI : ∃ r, CallR X (.builtin "sorted") r ∧ PrimA X r (one vSortI) := ⟨_, cr_sortedI, fun R S H ws vs w Q hr h e k => by
  obtain ⟨a, rfl, e0⟩ := one_of e
  have e := e0
  obtain ⟨v, rfl, h0⟩ := rv1 h
  have h := h0
  unfold vSortI at e
  cases q : intL a with
  | none => rw [q] at e; cases e
  | some ns =>
    rw [q] at e
    cases e
    obtain ⟨p, rfl, hp⟩ := intL_ok hr h q
    refine ⟨p, ns, rfl, hp, fun ns' p' hperm hpw hn => ?_⟩
    have e1 : ns' = ns.mergeSort (fun a b => decide (a ≤ b)) := by
      refine sorted_uniq (hperm.trans (List.mergeSort_perm ns _).symm) hpw ?_
      have := List.pairwise_mergeSort (le := fun (a b : Int) => decide (a ≤ b)) (fun a b c h1 h2 => by simp only [decide_eq_true_eq] at *; omega) (fun a b => by simp only [Bool.or_eq_true, decide_eq_true_eq]; omega) ns
      exact this.imp fun h => of_decide_eq_true h
    rw [e1]
    obtain ⟨n1, n2, n3⟩ := hr.newL hn (RepVs.ofInts (ns.mergeSort (fun a b => decide (a ≤ b))))
    exact k _ _ _ n1 n2 n3⟩
end

/-! ### list(range(a, b, c)) -/
section
variable {X : Cx} {R0 : RC} {H0 : Hp} {W : WX}
def rgL (i c : Int) (n : Nat) : List V := (List.range n).map fun k => V.int (i + (k : Nat) * c)
theorem vals_rgL {i c : Int} {n : Nat} {acc : Array Value} (h : ItemsOf (fun k v => ∃ t, v = .int (i + k * c) t) acc n) : Vals (rgL i c n) acc.toList := by
  have e : acc.toList.length = n := by rw [Array.length_toList]; exact h.1
  unfold rgL
  rw [← e]
  refine vals_of_get acc.toList _ fun j u hj => ?_
  obtain ⟨t, rfl⟩ := h.2 j u (by rw [← hj, Array.getElem?_toList])
  exact ⟨t, rfl⟩
def tLr3 (ta : TA) : TE := fun σ H Q => ta σ H fun vs H1 => ∃ (i j c : Int) (n : Nat), vs = [.int i, .int j, .int c] ∧ RgC i j c n ∧ n ≤ 2 ^ 24 ∧ ∀ q, H1 q = none → Q (.ref q) (upd H1 q (.lst (rgL i c n)))
theorem pe_lr3 {a b c : Expr} {ta : TA} {p p2 pos pos2 : Pos} (hc : X.calm = true) (hgl : Gl X "list") (hml : X.mg "list" = none) (hg : Gl X "range") (hm : X.mg "range" = none) (ha : PA X [a, b, c] ta)
    (hs : starEach [a, b, c] X.env = (false, eval a X.env) :: starEach [b, c] X.env) (hpl : (backTo pos2 (starEach [b, c] X.env)).any (·.1) = false) :
    PE X (.Call (.Name "list" p) [.Call (.Name "range" p2) [a, b, c] [] pos2] [] pos) (tLr3 ta) := by
  refine ⟨fun pins s σ H Q I h => ?_⟩
  have na : starEach [.Call (.Name "range" p2) [a, b, c] [] pos2] X.env = (false, eval (.Call (.Name "range" p2) [a, b, c] [] pos2) X.env) :: starEach [] X.env := rfl
  refine Call_ (ld_blt I hgl hml PyProof.Rows.boot_list (PyProof.Rows.callWith_type1 (args_cons (thn (Q := fun (x : Value) (s' : Shared) => ∃ (r : Addr) (i j c : Int) (n : Nat) (t u v : Tok) (H' : Hp), x = .ref r ∧ IsRange s'.heap r i j c t u v ∧ RgC i j c n ∧ n ≤ 2 ^ 24 ∧ Inv X pins σ H' s' ∧ ∀ q, H' q = none → Q (.ref q) (upd H' q (.lst (rgL i c n)))) ?_ fun x s1 hx => args_nil ?_) na) na))
  · refine Call_ (ld_blt I hg hm boot_range (PyProof.Rows.callWith_type1 (thn (ha.run pos2 pins s σ H _ I h) fun us s1 hv => ?_) hs hpl))
    obtain ⟨vs, H1, I1, r1, i, j, k, n, e, rg, hz, q⟩ := hv
    subst e
    cases r1 with
    | cons r rr =>
      cases rr with
      | cons r' rr =>
        cases rr with
        | cons r'' rr =>
          cases rr
          obtain ⟨t, rfl⟩ := r
          obtain ⟨t', rfl⟩ := r'
          obtain ⟨t'', rfl⟩ := r''
          exact call_range_3 rg.1 ⟨_, i, j, k, n, t, t', t'', H1, rfl, IsRange.new .., rg, hz, I1.kept (t' := s1.toks) fun b o e => Heap.get?_push_of_some _ e, q⟩ (.inl (PyProof.noPylong_small rg.2.1))
  · obtain ⟨r, i, j, k, n, t, u, v, H1, rfl, hr, ⟨c0, c1, c2, c3⟩, hz, I1, q⟩ := hx
    refine call_list_range (n := n) (I1.ok.hd hc) hr c2 c3 hz fun h' tk acc c' hk e' hi => ?_
    refine ⟨.ref s1.heap.objs.size, upd H1 s1.heap.objs.size (.lst (rgL i k n)), I1.laid hk (Nat.le_refl _) (show ObjOk X.prog X.w _ _ _ (.lst (rgL i k n)) from ⟨?_, acc.toList, c', vals_rgL hi, ?_⟩), rfl, q _ (I1.hok.fresh (Nat.le_refl _))⟩
    · unfold rgL
      rw [List.length_map, List.length_range, sizeLine_eq]
      omega
    · rw [Array.toArray_toList]
      exact e'
/-- all of a range's numbers, as a list -/
def rng3L (ws : List Va) : Option Va := match ws with
  | [_, _, _] => match rng ws with
    | some l => if l.length ≤ 16777216 then some (.lst l) else none
    | none => none
  | _ => none
def fLrg (fr : Evn → Store → Res (List Va)) : Evn → Store → Res Va := fun env S => (fr env S).bind fun ws S1 => lift (rng3L ws) S1
theorem rng3L_of {ws : List Va} {w : Va} (h : rng3L ws = some w) : ∃ i j c n, ws = [.int i, .int j, .int c] ∧ RgC i j c n ∧ n ≤ 16777216 ∧ w = .lst (upto i c n) := by
  match ws, h with
  | [a, b, d], h =>
    have h : (match rng [a, b, d] with | some l => if l.length ≤ 16777216 then some (Va.lst l) else none | none => none) = some w := h
    cases q : rng [a, b, d] with
    | none => rw [q] at h; cases h
    | some l =>
      rw [q] at h
      have h : (if l.length ≤ 16777216 then some (Va.lst l) else none) = some w := h
      obtain ⟨i, j, c, rfl, rfl, rfl⟩ := rng_three q
      obtain ⟨n, h1, rfl⟩ := rng3_of q
      by_cases hz : (upto i c n).length ≤ 16777216
      · rw [if_pos hz] at h
        rw [upto_len] at hz
        exact ⟨i, j, c, n, rfl, h1, hz, (Option.some.inj h).symm⟩
      · rw [if_neg hz] at h
        cases h
  | [], h => cases h
  | [_], h => cases h
  | [_, _], h => cases h
  | _ :: _ :: _ :: _ :: _, h => cases h
theorem reps_rgL {K : PySem.W.Frag} {mg : Str → Option Value} {R : RC} (i c : Int) (n : Nat) : RepVs K mg R (upto i c n) (rgL i c n) := by
  have gen : ∀ l : List Nat, RepVs K mg R (l.map fun (k : Nat) => Va.int (i + (k : Int) * c)) (l.map fun (k : Nat) => V.int (i + (k : Int) * c)) := by
    intro l
    induction l with
    | nil => exact .nil
    | cons a l ih => exact .cons .mkInt ih
  exact gen _
theorem lrg_read {fr : Evn → Store → Res (List Va)} {σ : L2.St} {H : Hp} {Q : VK} (h : tG X.K X.mg R0 H0 W (repV X.K X.mg) (fLrg fr) σ H Q) : tLr3 (tG X.K X.mg R0 H0 W (repA X.K X.mg) fr) σ H Q := by
  obtain ⟨R, S, env, A, h⟩ := h
  refine G_bind A h fun R1 S1 H1 ws vs A1 e1 r1 h1 => ?_
  obtain ⟨w, hw, h2⟩ := lift_wp h1
  obtain ⟨i, j, c, n, rfl, hr, hz, rfl⟩ := rng3L_of hw
  refine ⟨i, j, c, n, ints3 r1, hr, hz, fun q hq => ?_⟩
  obtain ⟨rel, ext, rv⟩ := A1.rel.newL hq (reps_rgL i c n)
  exact h2 _ _ _ (A1.step ext rel) ext rv
end
end Mi
end
section
/-! Mi, part P: exceptions that are caught and kept. -/
namespace L2
open PySem PySem.Spec PyProof.Rows Mi
theorem exo2_ok {P : Program} {w : World} {H : Hp} {h : Heap} {a : Addr} {cls : Value} {d : Option Addr} {oe : Obj} {vs : Array Value} (e : h.get? a = some oe) (z : Zc cls d oe) (q : oe.data = .fields vs) : ObjOk P w H h a (ExO2 cls d a) :=
  ⟨⟨oe, vs, e, z, q⟩, ⟨oe, e⟩, fun h1 h2 ⟨o, us, e1, e2, e3⟩ k => ⟨o, us, k o e1, e2, e3⟩⟩
section
variable {X : Cx} {pins : List (Addr × Obj)} {σ : List (Option V)} {H : Hp} {s : Shared}
/-- an object that was new since the entry is tracked from here on -/
theorem Inv.track {a : Addr} {cls : Value} {d : Option Addr} {oe : Obj} {vs : Array Value} (I : Inv X pins σ H s) (e : s.heap.get? a = some oe) (z : Zc cls d oe) (q : oe.data = .fields vs) (n : H a = none) (n0 : X.s_0.heap.get? a = none)
    (np : ∀ p ∈ X.pn ++ pins, p.1 ≠ a) (nL : a ≠ X.env.locals) : Inv X pins σ (upd H a (ExO2 cls d a)) s := by
  have ne0 : ∀ b o, X.s_0.heap.get? b = some o → b ≠ a := fun b o e1 e2 => by
    rw [e2, n0] at e1
    cases e1
  refine ⟨I.ok, I.os, I.bare, ⟨I.base.keep, I.base.slot, fun b o h1 h2 h3 => ?_, I.base.there, fun b xs h1 => ?_, fun b o u h1 => ?_, fun b ps h1 => ?_⟩, I.loc, I.cell, ?_, fun y c hc => ?_, fun p hp => ?_, ?_, I.len⟩
  · rw [upd_ne (ne0 b o h1)]
    exact I.base.free b o h1 h2 h3
  · have := I.base.tups b xs h1
    rw [upd_ne (ne_of_none this n)]
    exact this
  · have := I.base.frzs b o u h1
    rw [upd_ne (ne_of_none this n)]
    exact this
  · obtain ⟨m, this⟩ := I.base.tbls b ps h1
    exact ⟨m, by rw [upd_ne (ne_of_none this n)]; exact this⟩
  · rw [upd_ne (Ne.symm nL)]
    exact I.free
  · have : c ≠ a := fun e1 => by
      obtain ⟨v, o, e2, e3⟩ := I.cell y c hc
      rw [e1, e] at e2
      cases e2
      rw [q] at e3
      cases e3
    rw [upd_ne this]
    exact I.freeC y c hc
  · obtain ⟨h1, h2, h3⟩ := I.pin p hp
    exact ⟨h1, by rw [upd_ne (np p hp)]; exact h2, h3⟩
  · exact HOk.laidN I.hok (fun _ _ h => h) n (exo2_ok e z q)
/-- what 'except x as n: m = n' wishes of an exception of the body: slot j keeps it, slot i is nothing -/
def wKept (K : PySem.W.Frag) (c : Value) (i j : Nat) (Wout : WX) (D : Ends) : WX := fun cls d σ H =>
  ∃ b, PySem.W.exmOne K cls c = some b ∧ (b = true → ∀ a, H a = none → D.nx (((σ.set i (some (.ref a))).set j (some (.ref a))).set i none) (upd H a (ExO2 cls d a))) ∧ (b = false → Wout cls d σ H)
variable {x n m : Str} {c : Value} {i j : Nat} {body : List Stmt} {np mp vp ap pos pos' : Pos} {tb : WX → TS} {Wout : WX}
theorem ps_try_kept (hs : X.stack = X.env :: X.outer) (hf : X.env.frame = some X.env.locals) (hN : X.N.Nodup) (hi : X.N[i]? = some n) (hln : X.env.scope.names.lookup n = some .local) (hj : X.N[j]? = some m) (hlm : X.env.scope.names.lookup m = some .local) (hex : X.ex = [])
    (hd1 : (n == ("__debug__" : Str)) = false) (hd2 : (n == ("__classdict__" : Str)) = false) (hc : Names X x c) (tk : Takes X Wout)
    (hb : ∀ (W : WX) (pn : List (Addr × Obj)) (xe : Value → Shared → Prop), Takes (X.tr pn xe) W → PassesOwn (model X.prog X.w) X.A X.env xe → PSs (X.tr pn xe) body (tb W)) :
    PS X (.Try body [.ExceptHandler (some (.Name x np)) (some n) [.Assign [.Name m mp] (.Name n vp) ap] pos'] [] [] pos) (fun D σ H => tb (wKept X.K c i j Wout D) D σ H) := by
  refine ⟨fun pins s σ H D I h => ?_⟩
  have ok := I.ok
  have hfr : X.A.frames = some (X.env :: X.outer) := by rw [ok.frames, hs]
  refine wpAny_Try_except (wpAny_mono ((hb (wKept X.K c i j Wout D) (X.pn ++ pins) (fun e s₁ => wpAny (model X.prog X.w) X.A (noteFrame e X.env) (fun _ s₂ => wpAny (model X.prog X.w) X.A (setFlight e none) (fun _ s₃ =>
    wpAny (model X.prog X.w) X.A (handleBy e X.env [.ExceptHandler (some (.Name x np)) (some n) [.Assign [.Name m mp] (.Name n vp) ap] pos']) (SP X pins D) X.xe s₃) X.xe s₂) X.xe s₁) (fun u s' xx => ?_) PassesOwn.looking).run [] s σ H D (I.toTry _) h) (fun f s1 hsp => ?_) (fun e s1 he => he))
  · obtain ⟨a, B, sI, qs, σ', H', cls, d, rfl, J0, nb, up, sky, na, os, ag, b, hb1, hyes, hno⟩ := xx
    have J : Inv X pins σ' H' sI := J0.ofTry ok
    rw [show (X.tr (X.pn ++ pins) _).stack = X.env :: X.outer from hs] at sky
    show wpAny (model X.prog X.w) X.A (noteFrame (.ref a) X.env) _ _ _
    refine Sky.land Zc.steady hfr hf sky fun h3 fl3 up3 => ?_
    have J3 : Inv X pins σ' H' { s' with heap := h3 } := J.landed nb fl3.1 (up.trans up3) os ag
    obtain ⟨oe3, vs3, he3, hz3, hd3⟩ := fl3.there
    have nfr : a ∉ frs (X.env :: X.outer) := fun hm => by
      obtain ⟨_, o', e', hnf⟩ := fl3.2.2.1.mem hm
      rw [he3] at e'
      cases e'
      exact hnf _ hd3
    have nI : sI.heap.get? a = none := by
      cases q : sI.heap.get? a with
      | none => rfl
      | some o =>
        have := nb a o q (by rw [hs]; exact nfr)
        rw [fl3.2.1] at this
        cases this
    have n0 : X.s_0.heap.get? a = none := by
      cases q : X.s_0.heap.get? a with
      | none => rfl
      | some o =>
        obtain ⟨o', this⟩ := J.base.there a o q (by rw [hex]; exact fun z => nomatch z)
        rw [nI] at this
        cases this
    have npn : ∀ p ∈ X.pn ++ pins, p.1 ≠ a := fun p hp e1 => by
      have := (J.pin p hp).1
      rw [e1, nI] at this
      cases this
    have nL : a ≠ X.env.locals := fun z => nfr (List.mem_filterMap.mpr ⟨X.env, List.mem_cons_self, by rw [hf, z]⟩)
    have nF : a ∉ X.fs := fun hm => by
      obtain ⟨e, he, q⟩ := List.mem_filterMap.mp hm
      exact nfr (List.mem_filterMap.mpr ⟨e, List.mem_cons_of_mem _ he, q⟩)
    have S3 := J3.suite he3 hd3 na nL nF
    refine wpAny_handleBy_cons (codeAny_handlers_test ?_) (by intro q; cases q)
    have LT : PySem.W.Looks (model X.prog X.w) h3 (typeOf (.ref a)) cls := fun A Q E s k q => wpAny_typeOf_ref (k _ _ he3) (by rw [hz3.1]; exact q)
    have LM := PySem.W.exm_one (M := model X.prog X.w) (J3.kIn) LT hb1
    have test : ∀ {Q : Value → Shared → Prop} {E : Value → Shared → Prop}, Q c { s' with heap := h3 } → wpAny (model X.prog X.w) (X.A.mark (some (.ref a))) (eval (.Name x np) X.env) Q E { s' with heap := h3 } := by
      intro Q E q
      obtain ⟨hg, hdbg, hm | ⟨hm, hv, hnn⟩⟩ := hc
      · exact ld_glob (X := X.suite a ((a, oe3) :: (X.pn ++ pins))) S3 hg hm q hdbg
      · exact ld_blt (X := X.suite a ((a, oe3) :: (X.pn ++ pins))) S3 hg hm hv q hnn hdbg
    refine test (LM.here ?_)
    cases b with
    | true =>
      refine codeAny_handlers_suite_as (HandSPX.lands_againZ fl3 fun h4 fl4 up4 => ?_)
      have J4 : Inv X pins σ' H' { s' with heap := h4 } := J.landed nb fl4.1 ((up.trans up3).trans up4) os ag
      obtain ⟨oe4, vs4, he4, hz4, hd4⟩ := fl4.there
      have S4 := J4.suite he4 hd4 na nL nF
      refine store_ok (X := X.suite a ((a, oe4) :: (X.pn ++ pins))) (v := .ref a) S4 hN hi (.inl hln) rfl (fun s5 S5 => ?_) (.inr hln)
      have hil : i < σ'.length := by
        have := J4.len
        rw [this]
        exact (List.getElem?_eq_some_iff.mp hi).1
      have suite : PSs (X.suite a ((a, oe4) :: (X.pn ++ pins))) [.Assign [.Name m mp] (.Name n vp) ap] (tAsg (tVar i) (gName j)) :=
        pss_one (ps_set (X := X.suite a ((a, oe4) :: (X.pn ++ pins))) hN hj (.inl hlm) (pe_var hi (.inl hln) hd1 hd2) rfl (.inr hlm))
      refine wpAny_mono (suite.run [] s5 _ H' { nx := fun σ6 H6 => σ6 = ((σ'.set i (some (.ref a))).set j (some (.ref a))) ∧ H6 = H', rt := fun _ _ => False, bk := fun _ _ => False, ct := fun _ _ => False } S5 ⟨.ref a, by rw [List.getElem?_set_self hil], rfl, rfl⟩) (fun f s6 hsp => ?_) (fun _ _ z => False.elim z)
      cases f with
      | next =>
        obtain ⟨σ6, H6, S6, rfl, rfl⟩ := hsp
        have J6 : Inv X pins _ H6 s6 := S6.unsuite ok
        have g6 : s6.heap.get? a = some oe4 := (S6.pin (a, oe4) (List.mem_append_left _ List.mem_cons_self)).1
        exact gone_ok (J6.track g6 hz4 hd4 na n0 npn nL) hN hi hln fun s7 J7 => ⟨_, _, J7, hyes rfl a na⟩
      | brk =>
        obtain ⟨σ6, H6, S6, q6⟩ := hsp
        exact False.elim q6
      | cont =>
        obtain ⟨σ6, H6, S6, q6⟩ := hsp
        exact False.elim q6
      | ret u =>
        obtain ⟨v6, σ6, H6, S6, r6, q6⟩ := hsp
        exact False.elim q6
    | false =>
      show wpAny _ X.A (handleBy (.ref a) X.env []) _ _ _
      refine wpAny_handleBy_nil ?_
      obtain ⟨k1, k2, k3, oe, vs, T, oT, ts', he, hz, hd, h1, hr⟩ := id fl3
      unfold PySem.passOn
      refine wpAny_bind (wpAny_field he hd h1 ?_)
      rw [if_neg (show ¬ ((Value.ref T == Value.none) = true) from by simp)]
      have fin : wpAny (model X.prog X.w) X.A (setFlight (.ref a) X.env.frame) (fun _ s4 => wpAny (model X.prog X.w) X.A (throw (.ref a) : Sem Flow) (SP X pins D) X.xe s4) X.xe { s' with heap := h3 } := by
        rw [hf]
        exact HandSPX.setFlight_upZ fl3 fun h4 hh4 up4 => wpAny_throw (tk _ _ ⟨a, B, sI, pins, σ', H', cls, d, rfl, J, nb, (up.trans up3).trans up4, .inr (.inr (by rw [hs]; exact hh4)), na, os, ag, hno rfl⟩)
      first
        | exact wpAny_bind (wpAny_pure (wpAny_bind fin))
        | exact wpAny_bind fin
  · cases f with
    | next =>
      obtain ⟨σ', H', J', q⟩ := hsp
      exact wpAny_execs_nil ⟨σ', H', J'.ofTry ok, q⟩
    | brk =>
      obtain ⟨σ', H', J', q⟩ := hsp
      exact ⟨σ', H', J'.ofTry ok, q⟩
    | cont =>
      obtain ⟨σ', H', J', q⟩ := hsp
      exact ⟨σ', H', J'.ofTry ok, q⟩
    | ret u =>
      obtain ⟨v, σ', H', J', r, q⟩ := hsp
      exact ⟨v, σ', H', J'.ofTry ok, r, q⟩
end
/-! ### isinstance of an exception that is held -/
section
variable {X : Cx}
def rIsX (K : PySem.W.Frag) : List V → Hp → VK → Prop := fun xs H Q => ∃ (a C : Addr) (c : V) (cv : Value) (b : Bool), xs = [.ref a, c] ∧ H a = some (ExO2 (.ref C) none a) ∧ ExcC K C ∧ (∀ u, RelV c u → u = cv) ∧ PySem.W.kitOne K (.ref C) cv = some b ∧ Q (.bl b) H
theorem instX {P : Program} {w : World} {H : Hp} {h : Heap} {a C : Addr} (x : HOk P w H h) (e : H a = some (ExO2 (.ref C) none a)) : ∃ oe, PySem.W.InstAt h a oe C none := by
  obtain ⟨⟨oe, vs, e1, z, q⟩, _, _⟩ := x a _ e
  refine ⟨oe, ?_⟩
  obtain ⟨oc, od, oda, osl⟩ := oe
  obtain ⟨h1, h2⟩ := z
  dsimp only at h1 h2 q
  subst h1 h2 q
  exact ⟨e1, rfl, rfl, trivial⟩
theorem call_isX : CallR X (.builtin "isinstance") (rIsX X.K) := by
  intro pins s σ H xs us Q I r h
  obtain ⟨a, C, c, cv, b, rfl, ha, E, hcv, e, q⟩ := h
  cases r with
  | cons rx rr =>
    cases rr with
    | cons rt rr =>
      cases rr
      cases rx
      have ec := hcv _ rt
      subst ec
      obtain ⟨oe, J⟩ := instX I.hok ha
      exact PySem.W.kia_one (PySem.W.handS_kitx_exc E.hg E.hk E.hs E.hd E.ha E.hn E.ht E.hm) I.kIn J e (fun z => nomatch z) fun tk => ⟨.bl b, H, I.kept (t' := tk) fun _ _ z => z, rfl, q⟩
/-- .. of a tuple of classes -/
def rIsXT (K : PySem.W.Frag) : List V → Hp → VK → Prop := fun xs H Q => ∃ (a C p : Addr) (cs : List V) (cvs : List Value) (b : Bool), xs = [.ref a, .ref p] ∧ H a = some (ExO2 (.ref C) none a) ∧ ExcC K C ∧ SqT K H p cs ∧ (∀ us, Vals cs us → us = cvs) ∧ PySem.W.kitAny K (.ref C) cvs = some b ∧ Q (.bl b) H
theorem call_isXT : CallR X (.builtin "isinstance") (rIsXT X.K) := by
  intro pins s σ H xs us Q I r h
  obtain ⟨a, C, p, cs, cvs, b, rfl, ha, E, hp, hcv, e, q⟩ := h
  cases r with
  | cons rx rr =>
    cases rr with
    | cons rt rr =>
      cases rr
      cases rx
      cases rt
      obtain ⟨oe, J⟩ := instX I.hok ha
      obtain ⟨its, rv, pl, hz⟩ := I.tuple hp
      have ec := hcv _ rv
      subst ec
      obtain ⟨⟨oc, od, oda, osl⟩, e1, e2, n, e3⟩ := pl
      dsimp only at e2 e3
      subst e2 e3
      exact PySem.W.kia_tup (PySem.W.handS_kitx_exc E.hg E.hk E.hs E.hd E.ha E.hn E.ht E.hm) I.kIn J e1 e (fun z => nomatch z) fun tk => ⟨.bl b, H, I.kept (t' := tk) fun _ _ z => z, rfl, q⟩
end
end L2

namespace Mi
open PySem PySem.Spec PyProof.Rows L2
/-- what is known of the classes: sub c t, subT c t: is the class c below t, an own one, a built-in one -/
structure SubOk (K : PySem.W.Frag) (mg : Str → Option Value) (sub subT : String → String → Option Bool) : Prop where
  own : ∀ c t b C T, sub c t = some b → mg (Str.ofString c) = some (.ref C) → mg (Str.ofString t) = some (.ref T) → ExcC K C ∧ PySem.W.kitOne K (.ref C) (.ref T) = some b ∧ PySem.W.exmOne K (.ref C) (.ref T) = some b
  bui : ∀ c t b C, subT c t = some b → mg (Str.ofString c) = some (.ref C) → ExcC K C ∧ PySem.W.kitOne K (.ref C) (.type t) = some b
def subV (sub subT : String → String → Option Bool) (c : String) : Va → Option Bool
  | .fn t => sub c t
  | .ty t => subT c t
  | _ => none
def subVs (sub subT : String → String → Option Bool) (c : String) : List Va → Option Bool
  | [] => some false
  | w :: ws => match subV sub subT c w, subVs sub subT c ws with
    | some b, some d => some (b || d)
    | _, _ => none
def vIsE (sub subT : String → String → Option Bool) (ws : List Va) : Option Va := match ws with
  | [.exc c none, .tup l] => if l.isEmpty then none else (subVs sub subT c l).map .bl
  | [.exc c none, w] => (subV sub subT c w).map .bl
  | _ => none
section
variable {X : Cx} {sub subT : String → String → Option Bool}
theorem subV_ok {K : PySem.W.Frag} {mg : Str → Option Value} {R : RC} (Z : SubOk K mg sub subT) {c : String} {C : Addr} (hc : mg (Str.ofString c) = some (.ref C)) {w : Va} {v : V} {b : Bool} (r : RepV K mg R w v) (h : subV sub subT c w = some b) :
    ExcC K C ∧ ∃ cv, (∀ u, RelV v u → u = cv) ∧ PySem.W.kitOne K (.ref C) cv = some b := by
  cases w with
  | fn t =>
    obtain ⟨T, rfl, hT⟩ := r.fn_
    obtain ⟨E, k, _⟩ := Z.own c t b C T h hc hT
    exact ⟨E, .ref T, fun u q => q, k⟩
  | ty t =>
    rw [r.ty_]
    obtain ⟨E, k⟩ := Z.bui c t b C h hc
    exact ⟨E, .type t, fun u q => q, k⟩
  | _ => cases h
theorem subVs_ok {K : PySem.W.Frag} {mg : Str → Option Value} {R : RC} (Z : SubOk K mg sub subT) {c : String} {C : Addr} (hc : mg (Str.ofString c) = some (.ref C)) : ∀ {ws : List Va} {vs : List V} {b : Bool}, RepVs K mg R ws vs → subVs sub subT c ws = some b →
    ∃ cvs, (∀ us, Vals vs us → us = cvs) ∧ PySem.W.kitAny K (.ref C) cvs = some b
  | [], vs, b, r, h => by
    unfold RepVs at r
    subst r
    cases h
    exact ⟨[], fun us q => (by cases q; rfl), rfl⟩
  | w :: ws, vs, b, r, h => by
    unfold RepVs at r
    obtain ⟨v, rr, rfl, r1, r2⟩ := r
    unfold subVs at h
    cases h1 : subV sub subT c w with
    | none => rw [h1] at h; cases h
    | some b1 =>
      cases h2 : subVs sub subT c ws with
      | none => rw [h1, h2] at h; cases h
      | some b2 =>
        rw [h1, h2] at h
        cases h
        obtain ⟨_, cv, q1, q2⟩ := subV_ok Z hc r1 h1
        obtain ⟨cvs, q3, q4⟩ := subVs_ok Z hc r2 h2
        refine ⟨cv :: cvs, fun us q => ?_, ?_⟩
        · cases q with
          | cons a b => rw [q1 _ a, q3 _ b]
        · unfold PySem.W.kitAny
          rw [q2]
          cases b1 with
          | true => rfl
          | false => exact q4
theorem exc_none {K : PySem.W.Frag} {mg : Str → Option Value} {R : RC} {c : String} {v : V} (r : RepV K mg R (.exc c none) v) : ∃ a C, v = .ref a ∧ mg (Str.ofString c) = some (.ref C) ∧ R.G a = some (ExO2 (.ref C) none a) := by
  unfold RepV at r
  obtain ⟨a, C, d, e1, e2, e3, e4⟩ := r
  have e4 : d = none := e4
  subst e4
  exact ⟨a, C, e1, e2, e3⟩
theorem vIsE_of {ws : List Va} {w : Va} (h : vIsE sub subT ws = some w) : ∃ c w2, ws = [.exc c none, w2] ∧ ((∃ l, w2 = .tup l ∧ l ≠ [] ∧ (subVs sub subT c l).map Va.bl = some w) ∨ (subV sub subT c w2).map Va.bl = some w) := by
  unfold vIsE at h
  split at h
  · rename_i c l
    cases l with
    | nil => cases h
    | cons x l => exact ⟨c, _, rfl, .inl ⟨_, rfl, (fun z => nomatch z), h⟩⟩
  · exact ⟨_, _, rfl, .inr h⟩
  · cases h
theorem c_isE (Z : SubOk X.K X.mg sub subT) : ∃ r, CallR X (.builtin "isinstance") r ∧ PrimA X r (vIsE sub subT) := by
  refine ⟨_, call_isX.or call_isXT, fun R S H ws vs w Q hr h e k => ?_⟩
  obtain ⟨c, w2, rfl, e0⟩ := vIsE_of e
  clear e
  have e := e0
  clear e0
  unfold RepVs at h
  obtain ⟨v, rr, rfl, r1, h⟩ := h
  unfold RepVs at h
  obtain ⟨v2, rr2, rfl, r2, h⟩ := h
  unfold RepVs at h
  subst h
  obtain ⟨a, C, rfl, hC, hG⟩ := exc_none r1
  have hH := hr.le _ _ hG
  rcases e with ⟨l, rfl, hl, e⟩ | e
  · cases q : subVs sub subT c l with
    | none => rw [q] at e; cases e
    | some b =>
      rw [q] at e
      cases e
      obtain ⟨p, us, rfl, hp, rs⟩ := r2.tup_
      obtain ⟨cvs, q1, q2⟩ := subVs_ok Z hC rs q
      have E : ExcC X.K C := by
        cases l with
        | nil => exact absurd rfl hl
        | cons x l =>
          unfold subVs at q
          cases h1 : subV sub subT c x with
          | none => rw [h1] at q; cases q
          | some b1 =>
            unfold RepVs at rs
            obtain ⟨v0, _, _, r0, _⟩ := rs
            exact (subV_ok Z hC r0 h1).1
      exact .inr ⟨a, C, p, us, cvs, b, rfl, hH, E, hr.sqT hp, q1, q2, k R H _ hr Ext.refl .mkBl⟩
  · cases q : subV sub subT c w2 with
    | none => rw [q] at e; cases e
    | some b =>
      rw [q] at e
      cases e
      obtain ⟨E, cv, q1, q2⟩ := subV_ok Z hC r2 q
      exact .inl ⟨a, C, v2, cv, b, rfl, hH, E, q1, q2, k R H _ hr Ext.refl .mkBl⟩
end
/-! ### try .. except C as e: m = e -/
section
variable {K : PySem.W.Frag} {mg : Str → Option Value} {R0 : RC} {H0 : Hp} {R : RC} {S : Store} {H : Hp} {env : Evn} {σ : L2.St}
theorem At.drop (A : At K mg R0 H0 R S H env σ) (i : Nat) : At K mg R0 H0 R S H (env.set i .no) (σ.set i none) := by
  have key : ∀ (j : Nat) (sl : Sl), (env.set i .no)[j]? = some sl → sl ≠ .no → j ≠ i ∧ env[j]? = some sl := fun j sl h n => by
    by_cases c : i = j
    · subst c
      by_cases hi : i < env.length
      · rw [List.getElem?_set_self hi] at h
        exact absurd (Option.some.inj h).symm n
      · rw [List.getElem?_eq_none (by simpa using hi)] at h
        cases h
    · rw [List.getElem?_set_ne c] at h
      exact ⟨fun z => c z.symm, h⟩
  refine ⟨A.ext, A.rel, by rw [List.length_set, List.length_set]; exact A.len, fun j w h => ?_, fun j l h => ?_, fun j k l l' p h1 h2 h3 h4 => ?_⟩
  · obtain ⟨c, h⟩ := key j _ h (fun z => nomatch z)
    obtain ⟨v, q1, q2⟩ := A.val j w h
    exact ⟨v, by rw [List.getElem?_set_ne fun z => c z.symm]; exact q1, q2⟩
  · obtain ⟨c, h⟩ := key j _ h (fun z => nomatch z)
    obtain ⟨p, vs, q1, q2⟩ := A.own j l h
    exact ⟨p, vs, by rw [List.getElem?_set_ne fun z => c z.symm]; exact q1, q2⟩
  · obtain ⟨c1, h1⟩ := key j _ h1 (fun z => nomatch z)
    obtain ⟨c2, h2⟩ := key k _ h2 (fun z => nomatch z)
    rw [List.getElem?_set_ne fun z => c1 z.symm] at h3
    rw [List.getElem?_set_ne fun z => c2 z.symm] at h4
    exact A.dis j k l l' p h1 h2 h3 h4
end
def keptR (sub : String → String → Option Bool) (t : String) (i j : Nat) (r : RS) : RS := match r with
  | .ex c a env S => match sub c t with
    | some true => .nx (((env.set i (.val (.exc c a))).set j (.val (.exc c a))).set i .no) S
    | some false => .ex c a env S
    | none => .bad
  | r => r
def sKept (sub : String → String → Option Bool) (t : String) (i j : Nat) (f : Evn → Store → RS) : Evn → Store → RS := fun env S => keptR sub t i j (f env S)
section
variable {X : Cx} {R0 : RC} {H0 : Hp} {W : WX} {sub subT : String → String → Option Bool} {f : Evn → Store → RS} {body : List Stmt} {i j : Nat} {n m : Str} {t : String} {T : Addr} {np mp vp ap pos pos' : Pos}
theorem s_kept (Z : SubOk X.K X.mg sub subT) (hs : X.stack = X.env :: X.outer) (hf : X.env.frame = some X.env.locals) (hN : X.N.Nodup) (hi : X.N[i]? = some n) (hln : X.env.scope.names.lookup n = some .local) (hj : X.N[j]? = some m) (hlm : X.env.scope.names.lookup m = some .local) (hex : X.ex = [])
    (hd1 : (n == ("__debug__" : Str)) = false) (hd2 : (n == ("__classdict__" : Str)) = false) (hg : Gl X (Str.ofString t)) (hdt : (Str.ofString t == ("__debug__" : Str)) = false) (hT : X.mg (Str.ofString t) = some (.ref T)) (tk : Takes X W)
    (hb : ∀ (W' : WX) (pn : List (Addr × Obj)) (xe : Value → Shared → Prop), Takes (X.tr pn xe) W' → PassesOwn (model X.prog X.w) X.A X.env xe → OSs (X.tr pn xe) R0 H0 W' body f) :
    OS X R0 H0 W (.Try body [.ExceptHandler (some (.Name (Str.ofString t) np)) (some n) [.Assign [.Name m mp] (.Name n vp) ap] pos'] [] [] pos) (sKept sub t i j f) := by
  refine PSi (ps_try_kept (c := .ref T) (tb := fun W' => tS X.K X.mg R0 H0 W' f) hs hf hN hi hln hj hlm hex hd1 hd2 ⟨hg, hdt, .inl hT⟩ tk hb) fun D σ H h => ?_
  obtain ⟨R, S, env, A, h⟩ := h
  refine ⟨R, S, env, A, ?_⟩
  unfold sKept at h
  cases q : f env S with
  | nx e' S' => rw [q] at h; exact h
  | rt w S' => rw [q] at h; exact h
  | bad => rw [q] at h; exact h
  | ex c a e' S' =>
    rw [q] at h
    intro R' H' σ' cls d A' l rx
    have rx0 := rx
    obtain ⟨C, hC, rfl, hd⟩ := rx
    have h : (match sub c t with
      | some true => RS.nx (((e'.set i (.val (.exc c a))).set j (.val (.exc c a))).set i .no) S'
      | some false => .ex c a e' S'
      | none => .bad).wp (KN X.K X.mg R0 H0 R D.nx) (KT X.K X.mg R0 H0 R D.rt) (KX X.K X.mg R0 H0 W R) := h
    cases hb2 : sub c t with
    | none => rw [hb2] at h; exact h.elim
    | some b =>
      rw [hb2] at h
      obtain ⟨_, _, hx⟩ := Z.own c t b C T hb2 hC hT
      refine ⟨b, hx, fun e => ?_, fun e => ?_⟩
      · subst e
        intro p hp
        obtain ⟨rel, ext⟩ := A'.rel.new (o := ExO2 (.ref C) d p) hp
        have A2 := A'.step ext rel
        have rv : RepV X.K X.mg (R'.add p (ExO2 (.ref C) d p)) (.exc c a) (.ref p) := by
          unfold RepV
          refine ⟨p, C, d, rfl, hC, upd_same, ?_⟩
          cases a with
          | none => exact hd
          | some k =>
            obtain ⟨dd, e1, e2⟩ := hd
            exact ⟨dd, e1, ext.r.le _ _ e2⟩
        exact h _ _ _ (((A2.set rv i).set rv j).drop i) (l.trans ext.r)
      · subst e
        exact h R' H' σ' _ _ A' l rx0
/-- try: .. except T: m = None -/
def tryNR (sub : String → String → Option Bool) (t : String) (j : Nat) (r : RS) : RS := match r with
  | .ex c a env S => match sub c t with
    | some true => .nx (env.set j (.val .non)) S
    | some false => .ex c a env S
    | none => .bad
  | r => r
def sTryN (sub : String → String → Option Bool) (t : String) (j : Nat) (f : Evn → Store → RS) : Evn → Store → RS := fun env S => tryNR sub t j (f env S)
theorem s_tryN {cp : Pos} {k : Nat} (Z : SubOk X.K X.mg sub subT) (hs : X.stack = X.env :: X.outer) (hf : X.env.frame = some X.env.locals) (hN : X.N.Nodup) (hj : X.N[j]? = some m) (hlm : Loc X.env.scope m) (hfn : X.fn m = true)
    (hg : Gl X (Str.ofString t)) (hdt : (Str.ofString t == ("__debug__" : Str)) = false) (hT : X.mg (Str.ofString t) = some (.ref T)) (tk : Takes X W)
    (hb : ∀ (W' : WX) (pn : List (Addr × Obj)) (xe : Value → Shared → Prop), Takes (X.tr pn xe) W' → PassesOwn (model X.prog X.w) X.A X.env xe → OSs (X.tr pn xe) R0 H0 W' body f) :
    OS X R0 H0 W (.Try body [.ExceptHandler (some (.Name (Str.ofString t) np)) none [.Assign [.Name m mp] (.Constant .none k cp) ap] pos'] [] [] pos) (sTryN sub t j f) := by
  refine PSi (ps_try_only (c := .ref T) (tb := fun W' => tS X.K X.mg R0 H0 W' f) hs hf ⟨hg, hdt, .inl hT⟩ tk hb (fun a oe cls d pn _ _ => pss_cons (ps_set (X := X.suite a ((a, oe) :: pn)) hN hj hlm pe_non rfl (.inl hfn)) pss_nil)) fun D σ H h => ?_
  obtain ⟨R, S, env, A, h⟩ := h
  refine ⟨R, S, env, A, ?_⟩
  unfold sTryN at h
  cases q : f env S with
  | nx e' S' => rw [q] at h; exact h
  | rt w S' => rw [q] at h; exact h
  | bad => rw [q] at h; exact h
  | ex c a e' S' =>
    rw [q] at h
    intro R' H' σ' cls d A' l rx
    have rx0 := rx
    obtain ⟨C, hC, rfl, hd⟩ := rx
    have h : (match sub c t with
      | some true => RS.nx (e'.set j (.val .non)) S'
      | some false => .ex c a e' S'
      | none => .bad).wp (KN X.K X.mg R0 H0 R D.nx) (KT X.K X.mg R0 H0 R D.rt) (KX X.K X.mg R0 H0 W R) := h
    cases hb2 : sub c t with
    | none => rw [hb2] at h; exact h.elim
    | some b =>
      rw [hb2] at h
      obtain ⟨_, _, hx⟩ := Z.own c t b C T hb2 hC hT
      refine ⟨b, hx, fun e => ?_, fun e => ?_⟩
      · subst e
        intro p hp
        exact h R' H' _ (A'.set .mkNon j) l
      · subst e
        exact h R' H' σ' _ _ A' l rx0
end
end Mi
end
section
/-! Mi, part T: slices, texts times a number, lists of the store. -/
namespace Mi
open PySem PySem.Spec PyProof.Rows L2
section
variable {X : Cx} {R0 : RC} {H0 : Hp} {W : WX}
theorem relBl0 {K : PySem.W.Frag} {mg : Str → Option Value} {R : RC} {b : Bool} {v : V} (h : RepV K mg R (.bl b) v) : v = .bl b := by
  unfold RepV at h
  exact h
/-! ### slices -/
def cutL {α : Type} (xs : List α) (lo hi : Option Int) : List α := (xs.drop (HT.sIx xs.length 0 lo)).take (HT.sIx xs.length xs.length hi - HT.sIx xs.length 0 lo)
def vSl (lo hi : Option Int) : Va → Option Va
  | .lst l => some (.lst (cutL l lo hi))
  | .tup l => some (.tup (cutL l lo hi))
  | .str l => if l.length ≤ sizeLine then some (.str (cutL l lo hi)) else none
  | _ => none
theorem RepVs.cut {K : PySem.W.Frag} {mg : Str → Option Value} {R : RC} {ws : List Va} {vs : List V} (h : RepVs K mg R ws vs) (lo hi : Option Int) : RepVs K mg R (cutL ws lo hi) (cutV vs lo hi) := by
  unfold cutL cutV
  rw [RepVs.length h]
  exact (h.drop _).take _
theorem sl_ok (X : Cx) : ∃ r, SlR X r ∧ ∀ (R : RC) (S : Store) (H : Hp) (w u : Va) (v : V) (lo hi : Option Int) (Q : VK), Rel X.K X.mg R S H → RepV X.K X.mg R w v → vSl lo hi w = some u →
    (∀ R' H' x, Rel X.K X.mg R' S H' → Ext R R' H H' → RepV X.K X.mg R' u x → Q x H') → r v lo hi H Q := by
  refine ⟨_, (sl_list (X := X)).or ((sl_tupA (X := X)).or sl_str), fun R S H w u v lo hi Q hr h e k => ?_⟩
  cases w with
  | lst l =>
    cases e
    obtain ⟨p, vs, rfl, hg, rs⟩ := h.lst_
    refine .inl ⟨p, vs, rfl, SqL.of (hr.le _ _ hg), fun q hq => ?_⟩
    obtain ⟨n1, n2, n3⟩ := hr.newL hq (rs.cut lo hi)
    exact k _ _ _ n1 n2 n3
  | tup l =>
    cases e
    obtain ⟨p, vs, rfl, hg, rs⟩ := h.tup_
    refine .inr (.inl ⟨p, vs, rfl, hr.sqT hg, fun c => ?_, fun c q hq => ?_⟩)
    · have e : cutL l lo hi = l := by
        rw [RepVs.length rs] at c
        unfold cutL
        rw [c.1, c.2]
        simp
      rw [e] at k
      exact k R H _ hr Ext.refl h
    · obtain ⟨n1, n2, n3⟩ := hr.newT hq (rs.cut lo hi)
      exact k _ _ _ n1 n2 n3
  | str l =>
    have e : (if l.length ≤ sizeLine then some (Va.str (cutL l lo hi)) else none) = some u := e
    by_cases c : l.length ≤ sizeLine
    · rw [if_pos c] at e
      cases e
      rw [h.str_]
      refine .inr (.inr ⟨_, rfl, (by show l.toArray.size ≤ _; rw [List.size_toArray]; exact c), ?_⟩)
      refine k R H _ hr Ext.refl ?_
      unfold RepV
      show V.str (cutS ⟨l.toArray⟩ lo hi) = _
      unfold cutS cutL
      have : (⟨l.toArray⟩ : Str).length = l.length := by show l.toArray.size = _; simp
      rw [this]
    · rw [if_neg c] at e
      cases e
  | _ => cases e
/-- a part of a slice: not there, or an int -/
def optI : Bool → (Evn → Store → Res Va) → Evn → Store → Res (Option Int)
  | true, _ => fun _ S => .ok none S
  | false, f => fun env S => (f env S).bind fun w S1 => match w with
    | .int i => .ok (some i) S1
    | _ => .bad
def fSl (fa : Evn → Store → Res Va) (fl fh : Evn → Store → Res (Option Int)) : Evn → Store → Res Va := fun env S => (fa env S).bind fun w S1 => (fl env S1).bind fun lo S2 => (fh env S2).bind fun hi S3 => lift (vSl lo hi w) S3
abbrev OP' (X : Cx) (R0 : RC) (H0 : Hp) (W : WX) (e : Option Expr) (f : Evn → Store → Res (Option Int)) : Prop := PO X e (tG X.K X.mg R0 H0 W repO f)
theorem PEo {e : Option Expr} {t t' : TO} (h : PO X e t) (i : ∀ σ H Q, t' σ H Q → t σ H Q) : PO X e t' := ⟨fun pins s σ H Q I q => h.run pins s σ H Q I (i σ H Q q)⟩
theorem o_part0 {f : Evn → Store → Res Va} : OP' X R0 H0 W none (optI true f) := PEo po_none fun σ H Q h => by
  obtain ⟨R, S, env, A, h⟩ := h
  exact h R H none A Ext.refl rfl
theorem o_part1 {e : Expr} {f : Evn → Store → Res Va} (he : OE X R0 H0 W e f) : OP' X R0 H0 W (some e) (optI false f) := PEo (po_some he) fun σ H Q h => by
  obtain ⟨R, S, env, A, h⟩ := h
  refine G_bind A h fun R1 S1 H1 w v A1 e1 r1 h1 => ?_
  cases w with
  | int i => exact ⟨i, r1.int_, h1 R1 H1 (some i) A1 Ext.refl rfl⟩
  | _ => exact h1.elim
theorem e_sl {e : Expr} {lo hi : Option Expr} {fa : Evn → Store → Res Va} {fl fh : Evn → Store → Res (Option Int)} {p2 pos : Pos} (he : OE X R0 H0 W e fa) (hl : OP' X R0 H0 W lo fl) (hh : OP' X R0 H0 W hi fh) : OE X R0 H0 W (.Subscript e (.Slice lo hi none p2) pos) (fSl fa fl fh) := by
  obtain ⟨r, h1, h2⟩ := sl_ok X
  refine PEi (pe_slice h1 he hl hh) fun σ H Q h => ?_
  obtain ⟨R, S, env, A, h⟩ := h
  refine G_bind A h fun R1 S1 H1 w v A1 e1 r1 h => ?_
  refine G_bind A1 h fun R2 S2 H2 lo' lo'' A2 e2 r2 h => ?_
  refine G_bind A2 h fun R3 S3 H3 hi' hi'' A3 e3 r3 h => ?_
  have r2 : lo'' = lo' := r2
  have r3 : hi'' = hi' := r3
  subst r2 r3
  obtain ⟨u, hu, h4⟩ := lift_wp h
  exact h2 R3 S3 H3 w u v lo'' hi'' Q A3.rel (r1.mono (e2.trans e3).r) hu fun R' H' x n1 n2 n3 => h4 R' H' x (A3.step n2 n1) n2 n3
/-! ### a text times a number -/
def sMulL (l : List Nat) (n : Int) : List Nat := (List.replicate n.toNat l).flatten
theorem flat_len (l : List Nat) : ∀ n : Nat, ((List.replicate n l).flatten).length = l.length * n
  | 0 => by simp
  | n + 1 => by
    rw [List.replicate_succ, List.flatten_cons, List.length_append, flat_len l n, Nat.mul_add, Nat.mul_one, Nat.add_comm]
theorem sMulL_len (l : List Nat) (n : Int) : (sMulL l n).length = l.length * n.toNat := flat_len l _
theorem foldl_app (l : List Nat) : ∀ (n : Nat) (a : Array Nat), ((List.replicate n l.toArray).foldl (· ++ ·) a).toList = a.toList ++ (List.replicate n l).flatten
  | 0, a => by simp
  | n + 1, a => by
    rw [List.replicate_succ, List.foldl_cons, foldl_app l n, List.replicate_succ, List.flatten_cons, Array.toList_append, List.append_assoc]
theorem op_mulS : OpR X (binaryOp .Mult) (fun x y H Q => ∃ (l : List Nat) (n : Int), x = .str ⟨l.toArray⟩ ∧ y = .int n ∧ 0 ≤ n ∧ n ≤ 1000 ∧ l.length ≤ 1000 ∧ Q (.str ⟨(sMulL l n).toArray⟩) H) := by
  intro pins s σ H x y v u Q I rx ry h
  obtain ⟨l, n, rfl, rfl, h0, h1, h2, q⟩ := h
  obtain ⟨t, rfl⟩ := rx
  obtain ⟨t', rfl⟩ := ry
  have hlen : (⟨l.toArray⟩ : Str).length = l.length := by show l.toArray.size = _; simp
  have hml : l.length * n.toNat ≤ 1000000 := by
    have : l.length * n.toNat ≤ 1000 * 1000 := Nat.mul_le_mul h2 (by omega)
    omega
  refine P.mul_str (by simp; omega) (fun h3 _ => ?_) (fun h3 _ => ?_) ?_
  · rw [hlen]
    have : (1000 : Int) ≤ (2 ^ 63 - 1) / n := by
      rw [Int.le_ediv_iff_mul_le (by omega)]
      omega
    omega
  · rw [hlen]
    unfold Builtin.Str.tooLong
    rw [sizeLine_eq]
    simp
    omega
  · by_cases c : n < 1
    · rw [if_pos c]
      have e : n = 0 := by omega
      have q2 : Q (.str ⟨#[]⟩) H := by
        have e2 : sMulL l n = [] := by unfold sMulL; rw [e]; rfl
        rw [e2] at q
        exact q
      exact ⟨by decide, .str ⟨#[]⟩, H, I.tok _, ⟨_, rfl⟩, q2⟩
    · rw [if_neg c]
      by_cases c2 : (n == 1 || (⟨l.toArray⟩ : Str).length == 0) = true
      · rw [if_pos c2]
        have e2 : sMulL l n = l := by
          rw [hlen] at c2
          simp only [Bool.or_eq_true, beq_iff_eq] at c2
          unfold sMulL
          rcases c2 with c2 | c2
          · rw [c2]
            simp
          · have : l = [] := List.length_eq_zero_iff.mp c2
            rw [this]
            simp
        rw [e2] at q
        exact ⟨.str ⟨l.toArray⟩, H, I, ⟨t, rfl⟩, q⟩
      · rw [if_neg c2]
        have e2 : (⟨(List.replicate n.toNat (⟨l.toArray⟩ : Str).cps).foldl (· ++ ·) #[]⟩ : Str) = ⟨(sMulL l n).toArray⟩ := by
          have := foldl_app l n.toNat #[]
          congr 1
          apply Array.toList_inj.mp
          rw [this]
          unfold sMulL
          simp
        rw [e2]
        have hz : (⟨(sMulL l n).toArray⟩ : Str).length ≤ sizeLine := by
          show (sMulL l n).toArray.size ≤ _
          rw [List.size_toArray, sizeLine_eq]
          rw [sMulL_len]
          omega
        exact ⟨hz, .str ⟨(sMulL l n).toArray⟩, H, I.tok _, ⟨_, rfl⟩, q⟩
def sMul : Va → Va → Option Va := fun a b => match a, b with
  | .str l, .int n => if 0 ≤ n ∧ n ≤ 1000 ∧ l.length ≤ 1000 then some (.str (sMulL l n)) else none
  | _, _ => none
theorem p_sMul : Prim2 X (fun x y H Q => ∃ (l : List Nat) (n : Int), x = .str ⟨l.toArray⟩ ∧ y = .int n ∧ 0 ≤ n ∧ n ≤ 1000 ∧ l.length ≤ 1000 ∧ Q (.str ⟨(sMulL l n).toArray⟩) H) sMul := fun R S H w1 w2 x y w Q hr h1 h2 e k => by
  cases w1 with
  | str l =>
    cases w2 with
    | int n =>
      have e : (if 0 ≤ n ∧ n ≤ 1000 ∧ l.length ≤ 1000 then some (Va.str (sMulL l n)) else none) = some w := e
      by_cases c : 0 ≤ n ∧ n ≤ 1000 ∧ l.length ≤ 1000
      · rw [if_pos c] at e
        cases e
        exact ⟨l, n, h1.str_, h2.int_, c.1, c.2.1, c.2.2, k R H _ hr Ext.refl .mkStr⟩
      · rw [if_neg c] at e
        cases e
    | _ => cases e
  | _ => cases e
def vMulS : Va → Va → Option Va := fun a b => (vMul a b).or (sMul a b)
theorem o_mulS : ∃ r, OpR X (binaryOp .Mult) r ∧ Prim2 X r vMulS := by
  obtain ⟨r, h1, h2⟩ := o_mul (X := X)
  exact ⟨_, h1.or op_mulS, h2.or p_sMul⟩
/-! ### lists of the store -/
theorem Rel.madeL {K : PySem.W.Frag} {mg : Str → Option Value} {R : RC} {S : Store} {H : Hp} (r : Rel K mg R S H) {x : Addr} {ws : List Va} {vs : List V} (hx : H x = none) (q : RepVs K mg R ws vs) :
    Rel K mg ⟨R.G, R.ι ++ [x]⟩ (S ++ [.lst ws]) (upd H x (.lst vs)) ∧ Ext R ⟨R.G, R.ι ++ [x]⟩ H (upd H x (.lst vs)) := by
  have nx := r.inone hx
  have keep : ∀ b u, H b = some u → upd H x (.lst vs) b = some u := fun b u e => by
    rw [upd_ne (ne_of_none e hx)]
    exact e
  have le : RLe R ⟨R.G, R.ι ++ [x]⟩ := ⟨fun _ _ e => e, List.prefix_append _ _⟩
  refine ⟨⟨fun b u e => keep b u (r.le b u e), by simp [r.len], ?_, fun b hb => ?_, fun j u b e1 e2 => ?_⟩, le, fun b u e _ => keep b u e, fun b u e => .inl e, fun b hb => ?_⟩
  · show (R.ι ++ [x]).Nodup
    rw [List.nodup_append]
    exact ⟨r.nd, by simp, fun a ha b hb z => by
      rw [List.mem_singleton.mp hb] at z
      exact nx (by rw [← z]; exact ha)⟩
  · have hb : b ∈ R.ι ++ [x] := hb
    rcases List.mem_append.mp hb with hb | hb
    · cases q : H b with
      | none => exact absurd q (r.tr b hb)
      | some u =>
        rw [keep b u q]
        exact fun z => nomatch z
    · rw [List.mem_singleton.mp hb, upd_same]
      exact fun z => nomatch z
  · have e2 : (R.ι ++ [x])[j]? = some b := e2
    by_cases hj : j < S.length
    · rw [List.getElem?_append_left hj] at e1
      rw [List.getElem?_append_left (by rw [r.len]; exact hj)] at e2
      have hb : b ∈ R.ι := List.mem_of_getElem? e2
      refine (r.cell j u b e1 e2).keep le ?_ fun z => z
      rw [upd_ne fun z => nx (by rw [← z]; exact hb)]
    · rw [List.getElem?_append_right (by omega)] at e1
      rw [List.getElem?_append_right (by rw [r.len]; omega), r.len] at e2
      cases hk : j - S.length with
      | zero =>
        rw [hk] at e1 e2
        cases e1
        cases e2
        exact ⟨r.gnone hx, vs, upd_same, q.mono le⟩
      | succ k =>
        rw [hk] at e1
        cases e1
  · have hb : b ∈ R.ι ++ [x] := hb
    rcases List.mem_append.mp hb with hb | hb
    · exact .inl hb
    · rw [List.mem_singleton.mp hb]
      exact .inr hx
def fOl (fr : Evn → Store → Res (List Va)) : Evn → Store → Res Va := fun env S => (fr env S).bind fun ws S1 => if small ws then .ok (.ref S1.length) (S1 ++ [.lst ws]) else .bad
theorem e_ol {es : List Expr} {fr : Evn → Store → Res (List Va)} {pos : Pos} (ha : OA X R0 H0 W es fr) : OE X R0 H0 W (.List es pos) (fOl fr) := PEi (pe_lst ha) fun σ H Q h => by
  obtain ⟨R, S, env, A, h⟩ := h
  refine G_bind A h fun R1 S1 H1 ws vs A1 e1 r1 h1 => ?_
  obtain ⟨hz, h2⟩ := ite_wp h1
  refine ⟨by rw [RepVs.length r1]; exact of_decide_eq_true hz, fun q hq => ?_⟩
  obtain ⟨rel, ext⟩ := A1.rel.madeL hq r1
  refine h2 _ _ _ (A1.step ext rel) ext ?_
  have hi : (R1.ι ++ [q])[S1.length]? = some q := by
    rw [List.getElem?_append_right (by rw [A1.rel.len]; exact Nat.le_refl _), A1.rel.len, Nat.sub_self] <;> rfl
  unfold RepV
  exact ⟨q, rfl, hi⟩
/-- the list that an object of the store is -/
def lstOf (S : Store) (w : Va) : Option (List Va) := match w with
  | .ref i => match S[i]? with
    | some (.lst l) => some l
    | _ => none
  | _ => none
theorem lstOf_ok {K : PySem.W.Frag} {mg : Str → Option Value} {R : RC} {S : Store} {H : Hp} (hr : Rel K mg R S H) {w : Va} {v : V} {l : List Va} (h : RepV K mg R w v) (e : lstOf S w = some l) : ∃ i p vs, w = .ref i ∧ S[i]? = some (.lst l) ∧ v = .ref p ∧ R.ι[i]? = some p ∧ R.G p = none ∧ H p = some (.lst vs) ∧ RepVs K mg R l vs := by
  cases w with
  | ref i =>
    have e : (match S[i]? with | some (.lst l) => some l | _ => none) = some l := e
    cases q : S[i]? with
    | none => rw [q] at e; cases e
    | some so =>
      rw [q] at e
      cases so with
      | lst m =>
        cases e
        obtain ⟨p, rfl, hi⟩ := h.ref_
        obtain ⟨b, hb, g, vs, hH, rs⟩ := hr.objAt q
        rw [hi] at hb
        cases hb
        exact ⟨i, p, vs, rfl, q, rfl, hi, g, hH, rs⟩
      | _ => cases e
  | _ => cases e
def vIxS (S : Store) (a b : Va) : Option Va := match lstOf S a, b with
  | some l, .int i => atI l i
  | _, _ => none
def f2S (o : Store → Va → Va → Option Va) (fa fb : Evn → Store → Res Va) : Evn → Store → Res Va := fun env S => (fa env S).bind fun w1 S1 => (fb env S1).bind fun w2 S2 => lift (o S2 w1 w2) S2
def Prim2S (X : Cx) (r : R2) (o : Store → Va → Va → Option Va) : Prop := ∀ (R : RC) (S : Store) (H : Hp) (w1 w2 : Va) (x y : V) (w : Va) (Q : VK), Rel X.K X.mg R S H → RepV X.K X.mg R w1 x → RepV X.K X.mg R w2 y → o S w1 w2 = some w →
  (∀ R' H' v, Rel X.K X.mg R' S H' → Ext R R' H H' → RepV X.K X.mg R' w v → Q v H') → r x y H Q
theorem op2S_read {r : R2} {o : Store → Va → Va → Option Va} {fa fb : Evn → Store → Res Va} (hp : Prim2S X r o) {σ : L2.St} {H : Hp} {Q : VK} (h : tG X.K X.mg R0 H0 W (repV X.K X.mg) (f2S o fa fb) σ H Q) :
    tOp r (tG X.K X.mg R0 H0 W (repV X.K X.mg) fa) (tG X.K X.mg R0 H0 W (repV X.K X.mg) fb) σ H Q := by
  obtain ⟨R, S, env, A, h⟩ := h
  refine G_bind A h fun R1 S1 H1 w1 x A1 e1 r1 h1 => ?_
  refine G_bind A1 h1 fun R2 S2 H2 w2 y A2 e2 r2 h2 => ?_
  obtain ⟨w, hw, h3⟩ := lift_wp h2
  exact hp R2 S2 H2 w1 w2 x y w Q A2.rel (r1.mono e2.r) r2 hw fun R' H' v r' e' q' => h3 R' H' v (A2.step e' r') e' q'
theorem p_ixS : Prim2S X (rIxL X.K) vIxS := fun R S H w1 w2 x y w Q hr h1 h2 e k => by
  unfold vIxS at e
  cases q : lstOf S w1 with
  | none => rw [q] at e; cases e
  | some l =>
    rw [q] at e
    cases w2 with
    | int i =>
      have e : atI l i = some w := e
      obtain ⟨j, p, vs, rfl, hS, rfl, hi, g, hH, rs⟩ := lstOf_ok hr h1 q
      obtain ⟨v, hv, rv⟩ := at_ok rs e
      exact ⟨p, vs, i, v, rfl, h2.int_, SqL.of hH, hv, k R H v hr Ext.refl rv⟩
    | _ => cases e
theorem e_ixS {a b : Expr} {fa fb : Evn → Store → Res Va} {pos : Pos} (ha : OE X R0 H0 W a fa) (hb : OE X R0 H0 W b fb) (hs : PlainIx b) : OE X R0 H0 W (.Subscript a b pos) (f2S vIxS fa fb) := PEi (pe_ix ix_list ha hb hs) fun _ _ _ h => op2S_read p_ixS h
/-- data == a list of the store -/
def vEqS (neg : Bool) (S : Store) (a b : Va) : Option Va := match lstOf S b with
  | some l => if cl 8 a && cl 8 (.lst l) then some (.bl (if neg then !decide (a = .lst l) else decide (a = .lst l))) else none
  | none => none
theorem dpsL {K : PySem.W.Frag} {mg : Str → Option Value} {R : RC} {S : Store} {H : Hp} (hr : Rel K mg R S H) {p : Addr} {l : List Va} {vs : List V} (hH : H p = some (.lst vs)) (rs : RepVs K mg R l vs) (h : cl 8 (.lst l) = true) : Dp K H (.ref p) (pd (.lst l)) := by
  have all : ∀ (l : List Va) (vs : List V), l.all (cl 7) = true → RepVs K mg R l vs → DpAll K H vs (pds l) := by
    intro l
    induction l with
    | nil =>
      intro vs _ r
      unfold RepVs at r
      subst r
      exact .nil
    | cons w ws ihl =>
      intro vs h r
      unfold RepVs at r
      obtain ⟨v, rr, rfl, r1, r2⟩ := r
      simp only [List.all_cons, Bool.and_eq_true] at h
      exact .cons (dp_of hr w v 7 h.1 r1) (ihl rr h.2 r2)
  exact .lst (SqL.of hH) (all l vs h rs)
theorem eqS_of {neg : Bool} {S : Store} {a b w : Va} (h : vEqS neg S a b = some w) : ∃ l, lstOf S b = some l ∧ cl 8 a = true ∧ cl 8 (.lst l) = true ∧ w = .bl (if neg then !decide (a = .lst l) else decide (a = .lst l)) := by
  unfold vEqS at h
  cases q : lstOf S b with
  | none => rw [q] at h; cases h
  | some l =>
    rw [q] at h
    have h : (if (cl 8 a && cl 8 (.lst l)) = true then some (Va.bl (if neg then !decide (a = .lst l) else decide (a = .lst l))) else none) = some w := h
    by_cases c : (cl 8 a && cl 8 (.lst l)) = true
    · rw [if_pos c] at h
      rw [Bool.and_eq_true] at c
      exact ⟨l, rfl, c.1, c.2, (Option.some.inj h).symm⟩
    · rw [if_neg c] at h
      cases h
theorem o_eqS (hu : X.A.units + 64 < cLine) : ∃ r, OpR X (compareOp .Eq) r ∧ Prim2S X r (vEqS false) := ⟨_, op_eqD hu, fun R S H w1 w2 x y w Q hr h1 h2 e k => by
  obtain ⟨l, q, c1, c2, rfl⟩ := eqS_of e
  obtain ⟨j, p, vs, rfl, hS, rfl, hi, g, hH, rs⟩ := lstOf_ok hr h2 q
  refine ⟨_, _, dp_of hr w1 x 8 c1 h1, dpsL hr hH rs c2, cl_shaped c1, cl_shaped c2, ?_⟩
  rw [eqv_cl w1 (.lst l) 8 8 c1 c2]
  exact k R H _ hr Ext.refl .mkBl⟩
theorem o_neS (hu : X.A.units + 64 < cLine) : ∃ r, OpR X (compareOp .NotEq) r ∧ Prim2S X r (vEqS true) := ⟨_, op_neD hu, fun R S H w1 w2 x y w Q hr h1 h2 e k => by
  obtain ⟨l, q, c1, c2, rfl⟩ := eqS_of e
  obtain ⟨j, p, vs, rfl, hS, rfl, hi, g, hH, rs⟩ := lstOf_ok hr h2 q
  refine ⟨_, _, dp_of hr w1 x 8 c1 h1, dpsL hr hH rs c2, cl_shaped c1, cl_shaped c2, ?_⟩
  rw [eqv_cl w1 (.lst l) 8 8 c1 c2]
  exact k R H _ hr Ext.refl .mkBl⟩
theorem e_cmpS {a b : Expr} {fa fb : Evn → Store → Res Va} {pos : Pos} {op : CmpOp} {r : R2} {o : Store → Va → Va → Option Va} (ho : OpR X (compareOp op) r) (hp : Prim2S X r o) (ha : OE X R0 H0 W a fa) (hb : OE X R0 H0 W b fb) (hm : behindInMarks op b = false) : OE X R0 H0 W (.Compare a [op] [b] pos) (f2S o fa fb) :=
  PEi (pe_cmpR ho ha hb hm) fun _ _ _ h => op2S_read hp h
theorem t_cmpS2 {a b : Expr} {fa fb : Evn → Store → Res Va} {pos : Pos} {op : CmpOp} {r : R2} {o : Store → Va → Va → Option Va} (ho : OpR X (compareOp op) r) (hp : Prim2S X r o) (hbl : ∀ S x y w, o S x y = some w → ∃ k, w = .bl k) (ha : OE X R0 H0 W a fa) (hb : OE X R0 H0 W b fb) (hm : behindInMarks op b = false) :
    OT X R0 H0 W (.Compare a [op] [b] pos) (fTru (f2S o fa fb)) := PTi (pt_cmpR ho ha hb hm) fun σ H Q h => by
  show tOp r _ _ σ H fun x H' => ∃ k, x = .bl k ∧ Q k H'
  refine op2S_read (W := W) hp ?_
  obtain ⟨R, S, env, A, h⟩ := h
  refine ⟨R, S, env, A, ?_⟩
  unfold fTru at h
  rw [wp_bind] at h
  unfold f2S at h ⊢
  rw [wp_bind] at h ⊢
  refine wp_mono h (fun w1 S1 h => ?_) fun _ _ _ z => z
  rw [wp_bind] at h ⊢
  refine wp_mono h (fun w2 S2 h => ?_) fun _ _ _ z => z
  cases e : o S2 w1 w2 with
  | none => rw [e] at h; exact h
  | some w =>
    rw [e] at h
    obtain ⟨k, rfl⟩ := hbl _ _ _ _ e
    intro R' H' v A' ex rv
    exact ⟨k, relBl0 rv, h R' H' k A' ex rfl⟩
/-! ### o[k] = e, o a list of the store -/
def setL (S : Store) (w u : Va) (y : Va) : Option Store := match w, lstOf S w, u with
  | .ref i, some l, .int k => match ixN l.length k with
    | some j => some (S.set i (.lst (l.set j y)))
    | none => none
  | _, _, _ => none
def sSetS (fo fk fe : Evn → Store → Res Va) : Evn → Store → RS := fun env S => (fe env S).toS env fun y S1 => (fo env S1).toS env fun w S2 => (fk env S2).toS env fun u S3 => match setL S3 w u y with
  | some S4 => .nx env S4
  | none => .bad
theorem setL_of {S S' : Store} {w u y : Va} (h : setL S w u y = some S') : ∃ i l k j, w = .ref i ∧ lstOf S w = some l ∧ u = .int k ∧ ixN l.length k = some j ∧ S' = S.set i (.lst (l.set j y)) := by
  unfold setL at h
  split at h
  · rename_i i l k q
    cases e : ixN l.length k with
    | none => rw [e] at h; cases h
    | some j =>
      rw [e] at h
      cases h
      exact ⟨i, l, k, j, rfl, q, rfl, e, rfl⟩
  · cases h
theorem s_setS {oe ke e : Expr} {fo fk fe : Evn → Store → Res Va} {pos pos' : Pos} (ho : OE X R0 H0 W oe fo) (hk : OE X R0 H0 W ke fk) (he : OE X R0 H0 W e fe)
    (hg : ∀ {to ti : TE} {t : TSet}, PE X oe to → PE X ke ti → PSet X t → PG X (.Subscript oe ke pos') (gSub to ti t)) (hs : swapsWithSole [.Subscript oe ke pos'] e pos.line X.env = pure false) (hw : swappedStores [.Subscript oe ke pos'] e X.env = pure none) :
    OS X R0 H0 W (.Assign [.Subscript oe ke pos'] e pos) (sSetS fo fk fe) := PSi (ps_asg he (hg ho hk set_list) hs hw rfl) fun D σ H h => by
  obtain ⟨R, S, env, A, h⟩ := h
  refine S_bind A h fun R1 S1 H1 y v A1 e1 r1 h1 => ?_
  refine S_bind A1 h1 fun R2 S2 H2 w x A2 e2 r2 h2 => ?_
  refine S_bind A2 h2 fun R3 S3 H3 u z A3 e3 r3 h3 => ?_
  cases q : setL S3 w u y with
  | none => rw [q] at h3; exact h3.elim
  | some S4 =>
    rw [q] at h3
    obtain ⟨i, l, k, j, rfl, q1, rfl, q2, rfl⟩ := setL_of q
    obtain ⟨i', p, vs, e4, hS, rfl, hi, g, hH, rs⟩ := lstOf_ok A3.rel (r2.mono e3.r) q1
    cases e4
    refine ⟨p, vs, k, j, rfl, r3.int_, hH, by rw [RepVs.length rs]; exact q2, ?_⟩
    obtain ⟨rel, ext⟩ := A3.rel.write (so := .lst (l.set j y)) (o := .lst (vs.set j v)) hi g ⟨g, _, upd_same, rs.set j (r1.mono (e2.trans e3).r)⟩
    exact h3 R3 _ σ (A3.step ext rel) (RLe.refl R3)
end
end Mi
end
section
/-! Mi, part U: sorted(set(xs)), xs a list of ints. -/
namespace L2
open PySem PySem.Spec PyProof PyProof.Rows
section
variable {P : Program} {w : World} {A : Around} {E : Value → Shared → Prop} {s : Shared}
abbrev set0 (w : World) : Obj := { cls := .type "set", dict := none, data := .set #[] 0 (.fresh 0 0 (!w.params.followText "set-order")) }
theorem set_of_list {l : Addr} {items : Array Value} (ns : List Int) {Q : Value → Shared → Prop} (hh : A.handled = none) (hl : s.heap.IsList l items) (hit : IntsAre items.toList ns) (hb : ns.length + 1 < scanBound)
    (h : ∀ (h' : Heap) (tk c : Nat), SetR w h' s.heap.objs.size (fun j => decide (j ∈ ns)) c → c ≤ ns.length → (∀ b o, s.heap.get? b = some o → h'.get? b = some o) → Q (.ref s.heap.objs.size) { s with heap := h', toks := tk }) :
    wpAny (model P w) A (call (.type "set") [.ref l]) Q E s := by
  have hz : items.size = ns.length := by
    rw [← Array.length_toList]
    exact IntsAre.length hit
  obtain ⟨c, tl, hmro⟩ := F.called_set.mro
  have m1 := F.called_set.made
  have m2 := F.called_set.sub
  refine wpAny_call (codeAny_of_tree ?_)
  show wpAny _ _ (callAny (.type "set") _) _ _ _
  refine wpAny_pure ⟨Code.quiet_builtin _ (by decide +kernel), codeAny_builtin F.entry_type_call ?_⟩
  rw [Around.under_plain (weight_type_call_type "set" [.ref l] []) rfl]
  have m3 := F.called_set.notType
  have m4 := F.called_set.canCreate
  have m5 := F.typeCall_set_1 (.ref l)
  repeat (any_goals (first | assumption | wp_step))
  refine codeAny_mono (code_set_led1 (.ref l) (E := E) (Q₁ := fun obj s₁ => obj = .ref s.heap.objs.size ∧ s₁ = { s with heap := s.heap.push (set0 w) }) ⟨rfl, rfl⟩) fun r s₁ hr => ?_
  cases r with
  | error e => exact hr
  | ok fl =>
    cases fl with
    | ret obj =>
      obtain ⟨rfl, rfl⟩ := hr
      have g0 : (s.heap.push (set0 w)).get? s.heap.objs.size = some (set0 w) := Heap.get?_push_size _ rfl
      have t0 : Shared.TypeIs { s with heap := s.heap.push (set0 w) } (.ref s.heap.objs.size) "set" := ⟨_, g0, rfl⟩
      have m6 := F.called_set.init.lookup
      have m7 := F.called_set.init.bind (.ref s.heap.objs.size)
      repeat (any_goals (first | assumption | wp_step))
      refine codeAny_mono (codeAny_call_builtin (R := wants (fun r s₂ => r = .none ∧ ∃ h' tk c, s₂ = { s with heap := h', toks := tk } ∧ SetR w h' s.heap.objs.size (fun j => decide (j ∈ ns)) c ∧ c ≤ ns.length ∧ (∀ b o, s.heap.get? b = some o → h'.get? b = some o)) E)
        F.called_set.init.plain F.entry_set_init (check_set_init_1 t0 ?_)) fun r₂ s₂ hr₂ => ?_
      · obtain ⟨⟨ocls, odict, odata, oslots⟩, g1, e1, nl, e2⟩ := hl
        simp only at e1 e2
        subst e1; subst e2
        have g2 : (s.heap.push (set0 w)).get? l = some ⟨.type "list", odict, .seq items nl, oslots⟩ := Heap.get?_push_of_some _ g1
        have m8 := F.sub_list_set
        have m9 := F.sub_list_frozenset
        have m10 : (Value.type "list" == Value.type "dict") = false := by decide
        have L1 : (s.heap.push (set0 w)).IsList l items := ⟨_, g2, rfl, nl, rfl⟩
        unfold Builtin.«set.__init__» noKeywords Builtin.Frozenset.updateFrom
        generalize hPI : pyIter = PI
        wp_walk
        subst hPI
        refine wpAny_pyIter_list L1 (wpAny_bind (wpAny_runValue ?_))
        have lt : l < s.heap.objs.size := Heap.lt_size g1
        have h3 : A.in1.in1.in1.handled = none := by simp [hh]
        have neI : l ≠ (s.heap.push (set0 w)).objs.size := by
          rw [Heap.size_push]
          exact Nat.ne_of_lt (Nat.lt_succ_of_lt lt)
        have nS : s.heap.objs.size ∉ [(s.heap.push (set0 w)).objs.size, l] := by
          rw [Heap.size_push]
          simp only [List.mem_cons, List.not_mem_nil, or_false, not_or]
          exact ⟨Nat.ne_of_lt (Nat.lt_succ_self _), Nat.ne_of_gt lt⟩
        have vals : ∀ (i : Nat) (v : Value), items[i]? = some v → ∃ k t, ns[i]? = some k ∧ v = .int k t := fun i v hv => by
          have hi : i < ns.length := by
            rw [← hz]
            exact (Array.getElem?_eq_some_iff.mp hv).1
          obtain ⟨t, e⟩ := IntsAre.int_at hit i v (by rw [Array.getElem?_toList]; exact hv)
          refine ⟨ns[i], t, List.getElem?_eq_getElem hi, ?_⟩
          rw [e, List.getD_eq_getElem?_getD, List.getElem?_eq_getElem hi]
          rfl
        refine set_update_ints ((Walks.list h3 _ l neI items).toS) s.heap.objs.size nS ns hz hb vals (items.size - 0) 0 _ (by omega) (Nat.zero_le _) ⟨⟨_, Heap.get?_push_size _ rfl, rfl, rfl⟩, L1.push _⟩ ?_ ?_
        · exact ⟨0, Nat.le_refl 0, setR_new_at (Heap.get?_push_of_some _ g0)⟩
        · intro s' c' mv kc kS
          obtain ⟨h', gg, dd, tk', os'⟩ := s'
          obtain rfl : gg = s.gens := mv.gens
          obtain rfl : dd = s.drawn := mv.drawn
          obtain rfl : os' = s.os := mv.os
          rw [hz] at kc
          refine wpAny_pure (wpAny_pure ⟨rfl, h', tk', c', rfl, kS, kc, fun b o e => ?_⟩)
          have b0 : b < s.heap.objs.size := Heap.lt_size e
          refine mv.heap b o ?_ (Heap.get?_push_of_some _ (Heap.get?_push_of_some _ e))
          rw [Heap.size_push]
          simp only [List.mem_cons, List.not_mem_nil, or_false, not_or]
          exact ⟨Nat.ne_of_lt b0, Nat.ne_of_lt (Nat.lt_succ_of_lt b0)⟩
      · cases r₂ with
        | error e => exact hr₂
        | ok fl₂ =>
          cases fl₂ with
          | ret r =>
            obtain ⟨rfl, h', tk, c', rfl, k1, k2, k3⟩ := hr₂
            repeat (any_goals (first | assumption | wp_step))
            exact h _ _ _ k1 k2 k3
          | _ => exact hr₂.elim
    | _ => exact hr.elim
end
section
variable {X : Cx}
/-- set(xs), xs a list of ints -/
def rSetI (K : PySem.W.Frag) (w : World) : List V → Hp → VK → Prop := fun xs H Q => ∃ (l : Addr) (ns : List Int), xs = [.ref l] ∧ SqL K H l (ns.map V.int) ∧ ns.length < 64 ∧ ∀ (p : Addr) (c : Nat), H p = none → c ≤ ns.length → Q (.ref p) (upd H p (SetO w p (fun j => decide (j ∈ ns)) c))
theorem cr_setI (hc : X.calm = true) : CallR X (.type "set") (rSetI X.K X.w) := by
  intro pins s σ H xs us Q I r h
  obtain ⟨l, ns, rfl, hq, hz, q⟩ := h
  obtain ⟨u, eu, rx⟩ := vals1 r
  subst eu
  obtain rfl : u = Value.ref l := rx
  obtain ⟨its, rv, pl, _⟩ := I.list hq
  refine set_of_list ns (I.ok.hd hc) pl.isList (by simpa using intsAre_of rv) (by unfold scanBound; omega) fun h' tk c hS hl hk => ?_
  exact ⟨.ref s.heap.objs.size, upd H s.heap.objs.size (SetO X.w s.heap.objs.size _ c), I.laid (t' := tk) hk (Nat.le_refl _) (setO_new hS), rfl, q _ c (I.hok.fresh (Nat.le_refl _)) hl⟩
end
end L2

namespace Mi
open PySem PySem.Spec PyProof.Rows L2
/-! ### rising, each once -/
def insD (k : Int) : List Int → List Int
  | [] => [k]
  | a :: l => if k < a then k :: a :: l else if k = a then a :: l else a :: insD k l
def sortD (ns : List Int) : List Int := ns.foldr insD []
theorem insD_mem {k j : Int} : ∀ {l : List Int}, j ∈ insD k l ↔ j = k ∨ j ∈ l
  | [] => by simp [insD]
  | a :: l => by
    unfold insD
    by_cases c : k < a
    · rw [if_pos c]
      simp
    · rw [if_neg c]
      by_cases c2 : k = a
      · rw [if_pos c2]
        subst c2
        simp
      · rw [if_neg c2, List.mem_cons, insD_mem (l := l), List.mem_cons]
        constructor
        · rintro (h | h | h)
          · exact .inr (.inl h)
          · exact .inl h
          · exact .inr (.inr h)
        · rintro (h | h | h)
          · exact .inr (.inl h)
          · exact .inl h
          · exact .inr (.inr h)
theorem insD_lt {k : Int} : ∀ {l : List Int}, l.Pairwise (· < ·) → (insD k l).Pairwise (· < ·)
  | [], _ => by simp [insD]
  | a :: l, h => by
    obtain ⟨h1, h2⟩ := List.pairwise_cons.mp h
    unfold insD
    by_cases c : k < a
    · rw [if_pos c]
      refine List.pairwise_cons.mpr ⟨fun j hj => ?_, h⟩
      rcases List.mem_cons.mp hj with e | e
      · omega
      · have := h1 j e
        omega
    · rw [if_neg c]
      by_cases c2 : k = a
      · rw [if_pos c2]
        exact h
      · rw [if_neg c2]
        refine List.pairwise_cons.mpr ⟨fun j hj => ?_, insD_lt h2⟩
        rcases insD_mem.mp hj with e | e
        · omega
        · exact h1 j e
theorem sortD_mem {j : Int} : ∀ {ns : List Int}, j ∈ sortD ns ↔ j ∈ ns
  | [] => by simp [sortD]
  | a :: ns => by
    show j ∈ insD a (sortD ns) ↔ _
    rw [insD_mem, sortD_mem, List.mem_cons]
theorem sortD_lt : ∀ ns : List Int, (sortD ns).Pairwise (· < ·)
  | [] => List.Pairwise.nil
  | a :: ns => insD_lt (sortD_lt ns)
/-- rising lists of the same members are one -/
theorem rising_eq : ∀ {l m : List Int}, l.Pairwise (· < ·) → m.Pairwise (· < ·) → (∀ k, k ∈ l ↔ k ∈ m) → l = m
  | [], [], _, _, _ => rfl
  | [], b :: m, _, _, h => absurd ((h b).mpr List.mem_cons_self) (by simp)
  | a :: l, [], _, _, h => absurd ((h a).mp List.mem_cons_self) (by simp)
  | a :: l, b :: m, h1, h2, h => by
    obtain ⟨p1, p2⟩ := List.pairwise_cons.mp h1
    obtain ⟨q1, q2⟩ := List.pairwise_cons.mp h2
    have e : a = b := by
      rcases List.mem_cons.mp ((h a).mp List.mem_cons_self) with e | e
      · exact e
      · rcases List.mem_cons.mp ((h b).mpr List.mem_cons_self) with e' | e'
        · exact e'.symm
        · have := p1 b e'
          have := q1 a e
          omega
    subst e
    rw [rising_eq p2 q2 fun k => ?_]
    constructor
    · intro hk
      rcases List.mem_cons.mp ((h k).mp (List.mem_cons_of_mem _ hk)) with e | e
      · have := p1 k hk
        omega
      · exact e
    · intro hk
      rcases List.mem_cons.mp ((h k).mpr (List.mem_cons_of_mem _ hk)) with e | e
      · have := q1 k hk
        omega
      · exact e
section
variable {X : Cx} {R0 : RC} {H0 : Hp} {W : WX}
def vSS (w : Va) : Option Va := match intL w with
  | some ns => if ns.length < 64 then some (.lst ((sortD ns).map .int)) else none
  | none => none
def fSS (fa : Evn → Store → Res Va) : Evn → Store → Res Va := fun env S => (fa env S).bind fun w S1 => lift (vSS w) S1
theorem vSS_of {w u : Va} (h : vSS w = some u) : ∃ ns, intL w = some ns ∧ ns.length < 64 ∧ u = .lst ((sortD ns).map .int) := by
  unfold vSS at h
  cases q : intL w with
  | none => rw [q] at h; cases h
  | some ns =>
    rw [q] at h
    have h : (if ns.length < 64 then some (Va.lst ((sortD ns).map .int)) else none) = some u := h
    by_cases c : ns.length < 64
    · rw [if_pos c] at h
      exact ⟨ns, rfl, c, (Option.some.inj h).symm⟩
    · rw [if_neg c] at h
      cases h
theorem reps_ints {K : PySem.W.Frag} {mg : Str → Option Value} {R : RC} : ∀ ns : List Int, RepVs K mg R (ns.map .int) (ns.map V.int)
  | [] => .nil
  | n :: ns => .cons .mkInt (reps_ints ns)
theorem e_ss {a : Expr} {fa : Evn → Store → Res Va} {p p2 pos pos2 : Pos} (hc : X.calm = true) (hg : Gl X "sorted") (hm : X.mg "sorted" = none) (hg2 : Gl X "set") (hm2 : X.mg "set" = none) (ha : OE X R0 H0 W a fa) (hs : starEach [a] X.env = [(false, eval a X.env)]) :
    OE X R0 H0 W (.Call (.Name "sorted" p) [.Call (.Name "set" p2) [a] [] pos2] [] pos) (fSS fa) := by
  have h1 : PE X (.Call (.Name "set" p2) [a] [] pos2) (tCB (rSetI X.K X.w) (tCons (tG X.K X.mg R0 H0 W (repV X.K X.mg) fa) tNil)) := pe_callTy (cr_setI hc) hg2 hm2 boot_set (pa_cons ha pa_nil hs) (by decide) (by decide) hs rfl
  refine PEi (pe_callB (cr_sortedSet hc) hg hm PyProof.Rows.boot_sorted (pa_cons h1 pa_nil rfl) (by decide) (by decide) rfl rfl) fun σ H Q h => ?_
  obtain ⟨R, S, env, A, h⟩ := h
  show tG X.K X.mg R0 H0 W (repV X.K X.mg) fa σ H _
  refine G_bind A h fun R1 S1 H1 w v A1 e1 r1 h1 => ?_
  obtain ⟨u, hu, h2⟩ := lift_wp h1
  obtain ⟨ns, hi, hz, rfl⟩ := vSS_of hu
  obtain ⟨l, rfl, hq⟩ := intL_ok A1.rel r1 hi
  refine ⟨l, ns, rfl, hq, hz, fun p c hp hl => ?_⟩
  refine ⟨p, _, c, rfl, upd_same, by omega, fun ms q hlt hmem hlen hqn => ?_⟩
  have em : ms = sortD ns := rising_eq hlt (sortD_lt ns) fun k => by rw [hmem k, sortD_mem]; simp
  subst em
  obtain ⟨n1, n2⟩ := A1.rel.new (o := SetO X.w p (fun j => decide (j ∈ ns)) c) hp
  obtain ⟨m1, m2, m3⟩ := n1.newL hqn (reps_ints (K := X.K) (mg := X.mg) (sortD ns))
  exact h2 _ _ _ (A1.step (n2.trans m2) m1) (n2.trans m2) m3
end
/-! ### in, data of any depth, and a slice that may be the whole tuple -/
section
variable {X : Cx}
def vInD (neg : Bool) (a b : Va) : Option Va := match b with
  | .tup l => if cl 8 a && cl 8 (.tup l) then some (.bl (if neg then !decide (a ∈ l) else decide (a ∈ l))) else none
  | _ => none
theorem any_eqv (a : Va) : ∀ (l : List Va) (n m : Nat), cl n a = true → l.all (cl m) = true → (pds l).any (fun z => PyData.eqv z (pd a)) = decide (a ∈ l)
  | [], n, m, _, _ => by simp [pds]
  | w :: l, n, m, h1, h2 => by
    simp only [List.all_cons, Bool.and_eq_true] at h2
    rw [pds, List.any_cons, any_eqv a l n m h1 h2.2, eqv_cl w a m n h2.1 h1]
    by_cases c : w = a
    · subst c
      simp
    · have c2 : ¬ a = w := fun z => c z.symm
      simp [c, c2]
theorem op_inT (hu : X.A.units + 65 < cLine) : OpR X (compareOp .In) (fun x y H Q => ∃ (d : PyData) (ds : List PyData), Dp X.K H x d ∧ Dp X.K H y (.tuple ds) ∧ SeqAt.shaped d = true ∧ SeqAt.shaped (.tuple ds) = true ∧ Q (.bl (ds.any fun z => PyData.eqv z d)) H) := by
  intro pins s σ H x y v u Q I rx ry h
  obtain ⟨d, ds, hd, he, sd, se, q⟩ := h
  obtain ⟨as, r1⟩ := Dp.reads I d x v hd rx
  obtain ⟨bs, r2⟩ := Dp.reads I (.tuple ds) y u he ry
  exact SeqAt.in_tuple_reads r2 r1 (SeqAt.canLay_of_shaped se) (SeqAt.canLay_of_shaped sd) (room_in_shaped sd hu) ⟨.bl _, H, I, rfl, q⟩
theorem vInD_of {a b w : Va} (h : vInD false a b = some w) : ∃ l, b = .tup l ∧ cl 8 a = true ∧ cl 8 (.tup l) = true ∧ w = .bl (decide (a ∈ l)) := by
  cases b with
  | tup l =>
    have h : (if (cl 8 a && cl 8 (.tup l)) = true then some (Va.bl (if false = true then !decide (a ∈ l) else decide (a ∈ l))) else none) = some w := h
    by_cases c : (cl 8 a && cl 8 (.tup l)) = true
    · rw [if_pos c] at h
      rw [Bool.and_eq_true] at c
      exact ⟨l, rfl, c.1, c.2, (Option.some.inj h).symm⟩
    · rw [if_neg c] at h
      cases h
  | _ => cases h
theorem o_inD (hu : X.A.units + 65 < cLine) : ∃ r, OpR X (compareOp .In) r ∧ Prim2 X r (vInD false) := ⟨_, op_inT hu, fun R S H w1 w2 x y w Q hr h1 h2 e k => by
  obtain ⟨l, rfl, c1, c2, rfl⟩ := vInD_of e
  refine ⟨_, _, dp_of hr w1 x 8 c1 h1, dp_of hr (.tup l) y 8 c2 h2, cl_shaped c1, cl_shaped c2, ?_⟩
  rw [any_eqv w1 l 8 7 c1 c2]
  exact k R H _ hr Ext.refl .mkBl⟩
end
/-! ### a or b, by truth -/
section
variable {X : Cx} {R0 : RC} {H0 : Hp} {W : WX}
def fOrT (fa fb : Evn → Store → Res Va) : Evn → Store → Res Va := fun env S => (fa env S).bind fun w S1 => match truth w with
  | some true => .ok w S1
  | some false => fb env S1
  | none => .bad
theorem e_orT {a b : Expr} {fa fb : Evn → Store → Res Va} {pos : Pos} (ha : OE X R0 H0 W a fa) (hb : OE X R0 H0 W b fb) : OE X R0 H0 W (.BoolOp .Or [a, b] pos) (fOrT fa fb) := PEi (pe_orT ha (e_one hb)) fun σ H Q h => by
  obtain ⟨R, S, env, A, h⟩ := h
  refine G_bind A h fun R1 S1 H1 w v A1 e1 r1 h1 => ?_
  cases q : truth w with
  | none => rw [q] at h1; exact h1.elim
  | some k =>
    rw [q] at h1
    refine ⟨k, truth_ok A1.rel r1 q, ?_⟩
    cases k with
    | true => exact h1 R1 H1 v A1 Ext.refl r1
    | false => exact ⟨R1, S1, env, A1, h1⟩
end
end Mi
end
section
/-! Mi, part V: sorted by a key of the text's own; sorted data. -/
namespace Mi
open PySem PySem.Spec PyProof.Rows L2

/-- a key: an item's part, or two of them -/
inductive KeyS where
  | one (i : Nat) | two (i j : Nat)
def ixTree (p : Str) (i : Nat) : Expr → Bool
  | .Subscript (.Name x _) (.Constant (.int k) _ _) _ => decide (x = p) && decide (k = (i : Int)) && decide (i < 1000)
  | _ => false
def KeyS.tree (p : Str) : KeyS → Expr → Bool
  | .one i, e => ixTree p i e
  | .two i j, .Tuple [a, b] _ _ => ixTree p i a && ixTree p j b
  | _, _ => false
/-- a def that gives such a key, and does nothing else -/
structure KeyFn (K : PySem.W.Frag) (f : Addr) (ks : KeyS) : Prop where
  ex : ∃ (fd : FuncData) (p : Str) (oc : Value) (od : Option Addr) (osl : Array (Option Value)) (e : Expr) (pos : Pos),
    K.lookup f = some ⟨oc, od, .func fd, osl⟩ ∧ PySem.W.codeIn K fd.code fd.qualname = true ∧ fd.body = .stmts [.Return (some e) pos] ∧ fd.closure = [] ∧ (∀ v, bindArgs fd ⟨[v], []⟩ = pure [(p, v)]) ∧
      fd.scope.kind = .function ∧ fd.scope.isCoroutine = false ∧ fd.scope.isGenerator = false ∧ fd.scope.names.lookup p = some .local ∧ (p == ("__debug__" : Str)) = false ∧ ks.tree p e = true
def KeyS.reads (ks : KeyS) (ys : List V) (c : Int × Int) : Prop := match ks with
  | .one i => ys[i]? = some (.int c.1)
  | .two i j => ys[i]? = some (.int c.1) ∧ ys[j]? = some (.int c.2)
def KeyS.kd (ks : KeyS) (c : Int × Int) : PyData := match ks with
  | .one _ => .int c.1
  | .two _ _ => .tuple [.int c.1, .int c.2]
def KeyS.le (ks : KeyS) (c d : Int × Int) : Bool := match ks with
  | .one _ => decide (c.1 ≤ d.1)
  | .two _ _ => decide (c.1 < d.1 ∨ (c.1 = d.1 ∧ c.2 ≤ d.2))
theorem dataLe_key {β : Type} (ks : KeyS) (κ : β → Int × Int) : PySem.W.dataLe false (fun x => ks.kd (κ x)) = fun x y => ks.le (κ x) (κ y) := by
  cases ks with
  | one i => exact PySem.W.dataLe_int fun x => (κ x).1
  | two i j => exact PySem.W.dataLe_ii (fun x => (κ x).1) fun x => (κ x).2
section
variable {prog : Program} {w : World} {A : Around} {E : Value → Shared → Prop} {s s₀ : Shared}
/-- x[i], x the parameter, a tuple -/
theorem key_ix {env : PySem.Env} {m cm : Str → Option Value} {p : Str} {t : Addr} {its : Array Value} {i : Nat} {u : Value} {e : Expr} {Q : Value → Shared → Prop} (x : InCallC s₀ env.locals m env.cells cm s) (hk : env.scope.kind = .function) (hl : env.kindOf p = some .local) (hd : (p == ("__debug__" : Str)) = false)
    (hm : m p = some (.ref t)) (ht : IsTup s.heap t its) (hj : its[i]? = some u) (he : ixTree p i e = true) (h : Q u { s with toks := s.toks + 1 }) : wpAny (model prog w) A (eval e env) Q E s := by
  cases e with
  | Subscript a b pos =>
    cases a with
    | Name y py =>
      cases b with
      | Constant c kc pc =>
        cases c with
        | int k =>
          have he : (decide (y = p) && decide (k = (i : Int)) && decide (i < 1000)) = true := he
          simp only [Bool.and_eq_true, decide_eq_true_eq] at he
          obtain ⟨⟨rfl, rfl⟩, hi⟩ := he
          have hlt : i < its.size := by
            by_cases c : i < its.size
            · exact c
            · rw [Array.getElem?_eq_none (by omega)] at hj
              cases hj
          refine Subscript_ (NameLC x hk hl hm (wpAny_Constant_int ?_) hd)
          have ht2 : IsTup ({ s with toks := s.toks + 1 } : Shared).heap t its := ht
          refine subscriptTail_builtinR (x := u) ht2.typeIs slot_tuple_getitem.lookup (getItem_tuple (j := i) (Q := fun r s' => r = u ∧ Q r s') ht2 (by omega) (by omega) (by
            rw [seqIndex_of (by omega) (by omega)]
            simp) hj ⟨rfl, h⟩) (by with_unfolding_all rfl)
        | _ => cases he
      | _ => cases he
    | _ => cases he
  | _ => cases he
theorem wpAny_key {ks : KeyS} {K : PySem.W.Frag} {f : Addr} (F : KeyFn K f ks) (KX : K.In s.heap) (lim : s.heap.NoLimit) (room : A.depth < recursionLimit) {t : Addr} {its : List Value} {ys : List V} {c : Int × Int} (ht : IsTup s.heap t its.toArray) (hv : Vals ys its) (hr : ks.reads ys c) :
    wpAny (model prog w) A (call (.ref f) [.ref t]) (PySem.W.KeyPure (ks.kd c) s) (fun _ _ => False) s := by
  obtain ⟨fd, p, oc, od, osl, e, pos, lk, cd, hb, hc, hbind, hk, hco, hgen, hloc, hdb, htree⟩ := F.ex
  have kind : ∀ y ∈ [(p, Value.ref t)], fd.scope.names.lookup y.1 = some .local ∨ (fd.scope.names.lookup y.1 = some .cell ∧ ((cellsFrom (s.heap.objs.size + 1) fd.scope.names []).lookup y.1).isSome = true) := fun y hy => by
    rw [List.mem_singleton] at hy
    subst hy
    exact .inl hloc
  refine wpAny_call (codeAny_call_cells room (KX _ _ lk) rfl lim (PySem.W.codeRec_of KX cd) hb (hbind _) hc kind (fun s1 x => ?_) hco hgen hk)
  have hk2 : (callEnvC fd s.heap.objs.size f).scope.kind = .function := hk
  have hl2 : (callEnvC fd s.heap.objs.size f).kindOf p = some .local := hloc
  have hm : bindL (callEnvC fd s.heap.objs.size f).kindOf [(p, Value.ref t)] (fun _ => none) p = some (.ref t) := by
    unfold bindL
    rw [if_pos hl2]
    unfold bindL
    simp
  have ht1 : IsTup s1.heap t its.toArray := ht.keeps x.toInCall.keep
  refine wpAny_execs_cons (wpAny_Return_some ?_)
  obtain ⟨h1, tk1, rfl⟩ := x.toInCall.same
  cases ks with
  | one i =>
    obtain ⟨u, hu, ru⟩ := hv.get (show ys[i]? = some (.int c.1) from hr)
    obtain ⟨tt, rfl⟩ := ru
    refine key_ix x hk2 hl2 hdb hm ht1 (by simpa using hu) htree ?_
    exact ⟨h1, tk1 + 1, rfl, x.toInCall.keep, .int _ _⟩
  | two i j =>
    obtain ⟨hr1, hr2⟩ := (show ys[i]? = some (.int c.1) ∧ ys[j]? = some (.int c.2) from hr)
    obtain ⟨u, hu, ru⟩ := hv.get hr1
    obtain ⟨tt, rfl⟩ := ru
    obtain ⟨u2, hu2, ru2⟩ := hv.get hr2
    obtain ⟨tt2, rfl⟩ := ru2
    cases e with
    | Tuple es kc pt =>
      match es, htree with
      | [a, b], htree =>
        have htree : (ixTree p i a && ixTree p j b) = true := htree
        rw [Bool.and_eq_true] at htree
        have sa : ∀ rest, starEach (a :: rest) (callEnvC fd s.heap.objs.size f) = (false, eval a (callEnvC fd s.heap.objs.size f)) :: starEach rest (callEnvC fd s.heap.objs.size f) := fun rest => by
          cases a with
          | Subscript _ _ _ => rfl
          | _ => exact absurd htree.1 (by simp [ixTree])
        have sb : ∀ rest, starEach (b :: rest) (callEnvC fd s.heap.objs.size f) = (false, eval b (callEnvC fd s.heap.objs.size f)) :: starEach rest (callEnvC fd s.heap.objs.size f) := fun rest => by
          cases b with
          | Subscript _ _ _ => rfl
          | _ => exact absurd htree.2 (by simp [ixTree])
        refine wpAny_Tuple (wpAny_items_cons (key_ix x hk2 hl2 hdb hm ht1 (by simpa using hu) htree.1 ?_) (sa _))
        refine wpAny_items_cons (key_ix (x.tok _) hk2 hl2 hdb hm ht1 (by simpa using hu2) htree.2 ?_) (sb _)
        refine wpAny_items_nil ⟨by show 2 ≤ sizeLine; decide, ?_⟩
        refine ⟨_, _, rfl, fun b o q => Heap.get?_push_of_some _ (x.toInCall.keep b o q), ?_⟩
        exact .tuple (as := []) (Heap.get?_push_size _ rfl) rfl rfl (.cons (as := []) (bs := []) (.int _ _) (.cons (as := []) (bs := []) (.int _ _) .nil))
    | _ => simp [KeyS.tree] at htree
end
def rSortK (K : PySem.W.Frag) (ks : KeyS) : List V → List V → Hp → VK → Prop := fun vs zs H Q => ∃ (a f : Addr) (bs : List (V × Int × Int)), vs = [V.ref a] ∧ zs = [V.ref f] ∧ KeyFn K f ks ∧ SqL K H a (bs.map (·.1)) ∧
  (∀ b ∈ bs, ∃ t ys, b.1 = V.ref t ∧ SqT K H t ys ∧ ks.reads ys b.2) ∧ ∀ p, H p = none → Q (.ref p) (upd H p (.lst ((bs.mergeSort fun x y => ks.le x.2 y.2).map (·.1))))
section
variable {X : Cx}
theorem each_vals {α : Type} : ∀ {bs : List (V × α)} {us : List Value}, Vals (bs.map (·.1)) us → PySem.W.EachIs (fun v (b : V × α) => RelV b.1 v) us bs
  | [], us, h => by
    cases h
    exact .nil
  | b :: bs, us, h => by
    cases h with
    | cons r t => exact .cons r (each_vals t)
theorem vals_each {α : Type} : ∀ {us : List Value} {bs : List (V × α)}, PySem.W.EachIs (fun v (b : V × α) => RelV b.1 v) us bs → Vals (bs.map (·.1)) us
  | _, _, .nil => .nil
  | _, _, .cons r t => .cons r (vals_each t)
theorem crk_sort {ks : KeyS} (hu : X.A.units + 70 < cLine) (hd : X.A.depth + 5 < recursionLimit) : CallRK X (.builtin "sorted") [Str.ofString "key"] (rSortK X.K ks) := by
  intro pins s σ H vs zs us ws Q I r rz h
  obtain ⟨a, f, bs, rfl, rfl, F, hs, hx, q⟩ := h
  obtain ⟨its, rv, hl, hz⟩ := I.list hs
  obtain rfl := Vals.ref1 r
  obtain ⟨w1, rfl, e1⟩ := vals1 rz
  obtain rfl : w1 = Value.ref f := e1
  have hz2 : bs.length ≤ sizeLine := by
    rw [List.length_map] at hz
    exact hz
  refine PySem.W.sorted_key_data (b := false) (R := fun v (b : V × Int × Int) => RelV b.1 v) (bs := bs) (fun b => ks.kd b.2) hl.isList (each_vals rv) (PySem.W.AllAlike.of fun _ _ => by cases ks <;> simp [KeyS.kd, PySem.W.alike, PySem.W.alikeAll]) ?_ hz2 (fun x _ => ?_) (PyProof.Rows.ksk_s1 _ _) (fun _ => PyProof.Rows.ksk_l1 _ _) (fun _ => PyProof.Rows.ksk_t1 _ _) (fun v x hv hm h tk kp => ?_) fun out c h' tk kp hfr hD hol eo => ?_
  · cases ks with
    | one i => exact PySem.W.Sortable.others fun _ => ⟨by simp [KeyS.kd], fun _ => by simp [KeyS.kd]⟩
    | two i j => exact PySem.W.Sortable.tuples fun _ => ⟨_, _, rfl⟩
  · have : (ks.kd x.2).depth ≤ 1 := by cases ks <;> simp [KeyS.kd, PyData.depth, PyData.depthAll]
    omega
  · obtain ⟨t, ys, ht0, ht, hr⟩ := hx x hm
    obtain ⟨its2, rv2, it2, _⟩ := I.tuple ht
    rw [ht0] at hv
    obtain rfl : v = Value.ref t := hv
    exact wpAny_key (s := { s with heap := h, toks := tk }) F (I.kIn.keeps kp) (I.nolimit.keeps kp) (by
      show X.A.in1.in1.depth < recursionLimit
      have : X.A.in1.in1.depth = X.A.depth := rfl
      omega) (it2.keeps kp) rv2 hr
  · rw [dataLe_key ks (fun b : V × Int × Int => b.2)] at eo
    have ml : ((bs.mergeSort fun x y => ks.le x.2 y.2).map (·.1)).length ≤ sizeLine := by rw [List.length_map, List.length_mergeSort]; exact hz2
    exact ⟨.ref _, upd H (s.heap.objs.size + 1) (.lst ((bs.mergeSort fun x y => ks.le x.2 y.2).map (·.1))), I.laid (t' := tk) kp (Nat.le_succ _) ⟨ml, out, c, vals_each eo, hD⟩, rfl, q _ (I.hok.fresh (Nat.le_succ _))⟩
end
/-! ### by value -/
def iAt (l : List Va) (i : Nat) : Option Int := match l[i]? with
  | some (.int k) => some k
  | _ => none
theorem iAt_of {l : List Va} {i : Nat} {k : Int} (h : iAt l i = some k) : l[i]? = some (.int k) := by
  unfold iAt at h
  cases q : l[i]? with
  | none => rw [q] at h; cases h
  | some w =>
    rw [q] at h
    cases w with
    | int j =>
      cases h
      rfl
    | _ => cases h
/-- an item's key -/
def KeyS.of (ks : KeyS) (w : Va) : Option (Int × Int) := match ks, w with
  | .one i, .tup l => (iAt l i).map fun k => (k, 0)
  | .two i j, .tup l => (iAt l i).bind fun k => (iAt l j).map fun k' => (k, k')
  | _, _ => none
def KeyS.get (ks : KeyS) (w : Va) : Int × Int := (ks.of w).getD (0, 0)
def vSK (ks : KeyS) (w : Va) : Option Va := match w with
  | .lst l => if l.length ≤ sizeLine ∧ l.all (fun u => (ks.of u).isSome) = true then some (.lst (l.mergeSort fun x y => ks.le (ks.get x) (ks.get y))) else none
  | _ => none
section
variable {K : PySem.W.Frag} {mg : Str → Option Value} {R : RC} {S : Store} {H : Hp}
theorem KeyS.of_ok {ks : KeyS} {w : Va} {x : V} (hr : Rel K mg R S H) (r : RepV K mg R w x) (h : (ks.of w).isSome = true) : ∃ t ys, x = V.ref t ∧ SqT K H t ys ∧ ks.reads ys (ks.get w) := by
  cases w with
  | tup l =>
    obtain ⟨t, ys, rfl, ht, rs⟩ := r.tup_
    refine ⟨t, ys, rfl, hr.sqT ht, ?_⟩
    have rd : ∀ {i : Nat} {k : Int}, iAt l i = some k → ys[i]? = some (.int k) := fun e => by
      obtain ⟨v, h1, h2⟩ := rs.get (iAt_of e)
      rw [h1, h2.int_]
    cases ks with
    | one i =>
      have h : ((iAt l i).map fun k => (k, (0 : Int))).isSome = true := h
      cases q : iAt l i with
      | none => rw [q] at h; cases h
      | some k =>
        have : (KeyS.one i).get (.tup l) = (k, 0) := by
          show ((iAt l i).map fun k => (k, (0 : Int))).getD (0, 0) = _
          rw [q]
          rfl
        rw [this]
        exact rd q
    | two i j =>
      have h : ((iAt l i).bind fun k => (iAt l j).map fun k' => (k, k')).isSome = true := h
      cases q : iAt l i with
      | none => rw [q] at h; cases h
      | some k =>
        cases q2 : iAt l j with
        | none => rw [q, q2] at h; cases h
        | some k' =>
          have : (KeyS.two i j).get (.tup l) = (k, k') := by
            show ((iAt l i).bind fun k => (iAt l j).map fun k' => (k, k')).getD (0, 0) = _
            rw [q, q2]
            rfl
          rw [this]
          exact ⟨rd q, rd q2⟩
  | _ => cases ks <;> cases h
/-- each with its key -/
def keyed (ks : KeyS) : List Va → List V → List (V × Int × Int)
  | w :: ws, x :: xs => (x, ks.get w) :: keyed ks ws xs
  | _, _ => []
theorem keyed_fst (ks : KeyS) : ∀ {ws : List Va} {xs : List V}, RepVs K mg R ws xs → (keyed ks ws xs).map (·.1) = xs
  | [], xs, h => by
    unfold RepVs at h
    subst h
    rfl
  | w :: ws, xs, h => by
    unfold RepVs at h
    obtain ⟨v, r, rfl, h1, h2⟩ := h
    show v :: (keyed ks ws r).map (·.1) = _
    rw [keyed_fst ks h2]
theorem keyed_each (ks : KeyS) : ∀ {ws : List Va} {xs : List V}, RepVs K mg R ws xs → PySem.W.EachIs (fun w (b : V × Int × Int) => (RepV K mg R w b.1 ∧ ks.get w = b.2)) ws (keyed ks ws xs)
  | [], xs, h => by
    unfold RepVs at h
    subst h
    exact .nil
  | w :: ws, xs, h => by
    unfold RepVs at h
    obtain ⟨v, r, rfl, h1, h2⟩ := h
    exact .cons ⟨h1, rfl⟩ (keyed_each ks h2)
theorem each_reps {α : Type} : ∀ {ws : List Va} {bs : List (V × α)} {P : Va → V × α → Prop}, (∀ w b, P w b → RepV K mg R w b.1) → PySem.W.EachIs P ws bs → RepVs K mg R ws (bs.map (·.1))
  | _, _, _, _, .nil => .nil
  | _, _, _, f, .cons r t => .cons (f _ _ r) (each_reps f t)
theorem zip_of_each {α β : Type} {P : α → β → Prop} : ∀ {as : List α} {bs : List β}, PySem.W.EachIs P as bs → ∀ b ∈ bs, ∃ a ∈ as, P a b
  | _, _, .nil, b, h => by cases h
  | _, _, .cons r t, b, h => by
    rcases List.mem_cons.mp h with rfl | h
    · exact ⟨_, List.mem_cons_self, r⟩
    · obtain ⟨a, ha, hp⟩ := zip_of_each t b h
      exact ⟨a, List.mem_cons_of_mem _ ha, hp⟩
end
section
variable {X : Cx} {R0 : RC} {H0 : Hp} {W : WX}
def fSK (ks : KeyS) (fa : Evn → Store → Res Va) : Evn → Store → Res Va := fun env S => (fa env S).bind fun w S1 => lift (vSK ks w) S1
theorem e_sk {ks : KeyS} {a : Expr} {fa : Evn → Store → Res Va} {f : Str} {fad : Addr} {p pos fp kp : Pos} (hu : X.A.units + 70 < cLine) (hdp : X.A.depth + 5 < recursionLimit) (hg : Gl X "sorted") (hm : X.mg "sorted" = none) (hgf : Gl X f) (hmf : X.mg f = some (.ref fad)) (hdb : (f == ("__debug__" : Str)) = false) (F : KeyFn X.K fad ks)
    (ha : OE X R0 H0 W a fa) (hs : starEach [a] X.env = [(false, eval a X.env)]) :
    OE X R0 H0 W (.Call (.Name "sorted" p) [a] [⟨some "key", .Name f fp, kp⟩] pos) (fSK ks fa) := by
  have hk : PK X [⟨some ("key" : Str), .Name f fp, kp⟩] (tCons (tC (.ref fad)) tNil) := pk_cons (pe_glob hgf hmf rfl hdb) pk_nil
  refine PEi (pe_callBK (crk_sort (ks := ks) hu hdp) hg hm PyProof.Rows.boot_sorted (pa_cons ha pa_nil hs) hk (by decide) (by decide) (by rw [hs]; rfl) (by rw [hs]; rfl)) fun σ H Q h => ?_
  obtain ⟨R, S, env, A, h⟩ := h
  show tG X.K X.mg R0 H0 W (repV X.K X.mg) fa σ H _
  refine G_bind A h fun R1 S1 H1 w v A1 e1 r1 h1 => ?_
  obtain ⟨u, hu, h2⟩ := lift_wp h1
  cases w with
  | lst l =>
    have hu : (if l.length ≤ sizeLine ∧ l.all (fun u => (ks.of u).isSome) = true then some (Va.lst (l.mergeSort fun x y => ks.le (ks.get x) (ks.get y))) else none) = some u := hu
    by_cases c : l.length ≤ sizeLine ∧ l.all (fun u => (ks.of u).isSome) = true
    · rw [if_pos c] at hu
      cases hu
      obtain ⟨t, xs, rfl, ht, rs⟩ := r1.lst_
      refine ⟨t, fad, keyed ks l xs, rfl, rfl, F, ?_, fun b hb => ?_, fun q hq => ?_⟩
      · rw [keyed_fst ks rs]
        exact SqL.of (A1.rel.le _ _ ht)
      · obtain ⟨w, hw, r2, e⟩ := zip_of_each (keyed_each ks rs) b hb
        obtain ⟨t2, ys, h3, h4, h5⟩ := KeyS.of_ok A1.rel r2 (List.all_eq_true.mp c.2 w hw)
        rw [e] at h5
        exact ⟨t2, ys, h3, h4, h5⟩
      · have es := PySem.W.sort_each (r := fun x y => ks.le (ks.get x) (ks.get y)) (s := fun (x y : V × Int × Int) => ks.le x.2 y.2) (keyed_each ks rs) fun p hp q hq => by
          rw [((keyed_each ks rs).zip p hp).2, ((keyed_each ks rs).zip q hq).2]
        obtain ⟨n1, n2, n3⟩ := A1.rel.newL hq (each_reps (fun _ _ h => h.1) es)
        exact h2 _ _ _ (A1.step n2 n1) n2 n3
    · rw [if_neg c] at hu
      cases hu
  | _ => cases hu
end
end Mi
end
section
/-! Mi, part W: three comparisons in a row; an own list read while it grows; sorted data; attributes as targets. -/
namespace L2
open PySem PySem.Spec PyProof.Rows
section
variable {X : Cx} {ta tb tc td : TE} {a b c d : Expr} {pos : Pos}
def tChain3 (r r' r'' : R2) (ta tb tc td : TE) : TE := fun σ H Q => ta σ H fun x H1 => tb σ H1 fun y H2 => r x y H2 fun z H3 => ∃ k, z = .bl k ∧
  (if k = true then tc σ H3 fun w H4 => r' y w H4 fun z' H5 => ∃ k', z' = .bl k' ∧ (if k' = true then td σ H5 fun u H6 => r'' w u H6 Q else Q (.bl false) H5) else Q (.bl false) H3)
theorem pe_chain3 {op op' op'' : CmpOp} {r r' r'' : R2} (ho : OpR X (compareOp op) r) (ho' : OpR X (compareOp op') r') (ho'' : OpR X (compareOp op'') r'') (ha : PE X a ta) (hb : PE X b tb) (hc : PE X c tc) (hd : PE X d td)
    (hm : lastMarks [op, op', op''] [b, c, d] = false) : PE X (.Compare a [op, op', op''] [b, c, d] pos) (tChain3 r r' r'' ta tb tc td) := by
  refine ⟨fun pins s σ H Q I h => ?_⟩
  refine Compare_chain (thn (ha.run pins s σ H _ I h) fun v s1 ⟨x, H1, I1, r1, q1⟩ => chain_link (thn (hb.run pins s1 σ H1 _ I1 q1) fun u s2 ⟨y, H2, I2, r2, q2⟩ =>
    thn (ho pins s2 σ H2 x y v u _ I2 r1 r2 q2) fun e s3 ⟨z, H3, I3, r3, k, e1, q3⟩ => ?_)) hm
  subst e1
  cases r3
  refine wpAny_truthy_bool ?_
  cases k with
  | false => exact ite_ff ⟨.bl false, H3, I3, rfl, q3⟩
  | true =>
    refine ite_tt (chain_link (thn (hc.run pins s3 σ H3 _ I3 q3) fun w4 s4 ⟨y4, H4, I4, r4, q4⟩ => thn (ho' pins s4 σ H4 y y4 u w4 _ I4 r2 r4 q4) fun e5 s5 ⟨z5, H5, I5, r5, k', e2, q5⟩ => ?_))
    subst e2
    cases r5
    refine wpAny_truthy_bool ?_
    cases k' with
    | false => exact ite_ff ⟨.bl false, H5, I5, rfl, q5⟩
    | true => exact ite_tt (chain_last (thn (hd.run pins s5 σ H5 _ I5 q5) fun w6 s6 ⟨z6, H6, I6, r6, q6⟩ => ho'' pins s6 σ H6 y4 z6 w4 w6 Q I6 r4 r6 q6))
theorem pt_chain3 {op op' op'' : CmpOp} {r r' r'' : R2} (ho : OpR X (compareOp op) r) (ho' : OpR X (compareOp op') r') (ho'' : OpR X (compareOp op'') r'') (ha : PE X a ta) (hb : PE X b tb) (hc : PE X c tc) (hd : PE X d td)
    (hm : lastMarks [op, op', op''] [b, c, d] = false) : PT X (.Compare a [op, op', op''] [b, c, d] pos) (tTest (tChain3 r r' r'' ta tb tc td)) := by
  refine ⟨fun pins s σ H Q I h => ?_⟩
  refine isTrue_chain (thn (ha.run pins s σ H _ I h) fun v s1 ⟨x, H1, I1, r1, q1⟩ => test_link (thn (hb.run pins s1 σ H1 _ I1 q1) fun u s2 ⟨y, H2, I2, r2, q2⟩ =>
    thn (ho pins s2 σ H2 x y v u _ I2 r1 r2 q2) fun e s3 ⟨z, H3, I3, r3, k, e1, q3⟩ => ?_)) hm
  subst e1
  cases r3
  refine wpAny_truthy_bool ?_
  cases k with
  | false =>
    obtain ⟨k2, e2, q2⟩ := q3
    cases e2
    exact ite_ff ⟨H3, I3, q2⟩
  | true =>
    refine ite_tt (test_link (thn (hc.run pins s3 σ H3 _ I3 q3) fun w4 s4 ⟨y4, H4, I4, r4, q4⟩ => thn (ho' pins s4 σ H4 y y4 u w4 _ I4 r2 r4 q4) fun e5 s5 ⟨z5, H5, I5, r5, k', e2, q5⟩ => ?_))
    subst e2
    cases r5
    refine wpAny_truthy_bool ?_
    cases k' with
    | false =>
      obtain ⟨k2, e3, q6⟩ := q5
      cases e3
      exact ite_ff ⟨H5, I5, q6⟩
    | true =>
      refine ite_tt (test_last (thn (hd.run pins s5 σ H5 _ I5 q5) fun w6 s6 ⟨z6, H6, I6, r6, q6⟩ => thn (ho'' pins s6 σ H6 y4 z6 w4 w6 _ I6 r4 r6 q6) fun e7 s7 ⟨z7, H7, I7, r7, k7, e8, q7⟩ => ?_))
      subst e8
      cases r7
      exact wpAny_truthy_bool ⟨H7, I7, q7⟩
/-- o.f as a target -/
def gAttr (K : PySem.W.Frag) (ta : TE) (f : Str) : TG := fun y σ H Q => ta σ H fun x H2 => ∃ p C dx fs, x = .ref p ∧ H2 p = some (.ins C dx fs) ∧ Cls K C ∧ NoAttr K C f ∧ fs.length < 1000 ∧ Q σ (upd H2 p (.ins C dx (putF f y fs)))
theorem pg_attr {o : Expr} {f : Str} (ha : PE X o ta) : PG X (.Attribute o f pos) (gAttr X.K ta f) := by
  refine ⟨fun pins s σ H y u Q I ry h => ?_⟩
  rw [assign_Attribute]
  refine wpAny_bind (wpAny_holding (thn (ha.run pins s σ H _ I h) fun ov s2 ⟨x, H2, I2, rx, p, C, dx, fs, ex, ea, c, n, l, q2⟩ => ?_))
  subst ex
  obtain rfl : ov = Value.ref p := rx
  refine wpAny_bind (wpAny_standAt (wpAny_bind (wpAny_holding (setattr_ok I2 ea c n l ry fun s3 I3 => wpAny_release ?_))))
  exact ⟨σ, _, I3, q2⟩
end
end L2
namespace Mi
open PySem PySem.Spec PyProof.Rows L2
section
variable {X : Cx} {R0 : RC} {H0 : Hp} {W : WX} {a b c d : Expr} {fa fb fc fd : Evn → Store → Res Va} {pos : Pos}
def fChain3 (o o' o'' : Va → Va → Option Va) (fa fb fc fd : Evn → Store → Res Va) : Evn → Store → Res Va := fun env S => (fa env S).bind fun w1 S1 => (fb env S1).bind fun w2 S2 => match o w1 w2 with
  | some (.bl k) => if k = true then (fc env S2).bind fun w3 S3 => (match o' w2 w3 with
    | some (.bl k') => if k' = true then (fd env S3).bind fun w4 S4 => lift (o'' w3 w4) S4 else .ok (.bl false) S3
    | _ => .bad) else .ok (.bl false) S2
  | _ => .bad
theorem chain3_read {r r' r'' : R2} {o o' o'' : Va → Va → Option Va} (hp : Prim2 X r o) (hp' : Prim2 X r' o') (hp'' : Prim2 X r'' o'') {σ : L2.St} {H : Hp} {Q : VK} (h : tG X.K X.mg R0 H0 W (repV X.K X.mg) (fChain3 o o' o'' fa fb fc fd) σ H Q) :
    tChain3 r r' r'' (tG X.K X.mg R0 H0 W (repV X.K X.mg) fa) (tG X.K X.mg R0 H0 W (repV X.K X.mg) fb) (tG X.K X.mg R0 H0 W (repV X.K X.mg) fc) (tG X.K X.mg R0 H0 W (repV X.K X.mg) fd) σ H Q := by
  obtain ⟨R, S, env, A, h⟩ := h
  refine G_bind A h fun R1 S1 H1 w1 x A1 e1 r1 h1 => ?_
  refine G_bind A1 h1 fun R2 S2 H2 w2 y A2 e2 r2 h2 => ?_
  obtain ⟨k, hw, h3⟩ := some_bl h2
  refine hp R2 S2 H2 w1 w2 x y _ _ A2.rel (r1.mono e2.r) r2 hw fun R' H' v r' e' q' => ⟨k, q'.bl_, ?_⟩
  have A' := A2.step e' r'
  cases k with
  | false => exact h3 R' H' _ A' e' .mkBl
  | true =>
    have h3' := wp_rebase e' h3
    refine G_bind A' h3' fun R3 S3 H3 w3 z A3 e3 r3 h4 => ?_
    obtain ⟨k', hw', h5⟩ := some_bl h4
    refine hp' R3 S3 H3 w2 w3 y z _ _ A3.rel ((r2.mono e'.r).mono e3.r) r3 hw' fun R4 H4 v4 r4 e4 q4 => ⟨k', q4.bl_, ?_⟩
    have A4 := A3.step e4 r4
    cases k' with
    | false => exact h5 R4 H4 _ A4 e4 .mkBl
    | true =>
      have h5' := wp_rebase e4 h5
      refine G_bind A4 h5' fun R5 S5 H5 w5 z5 A5 e5 r5 h6 => ?_
      obtain ⟨w, hw'', h7⟩ := lift_wp h6
      exact hp'' R5 S5 H5 w3 w5 z z5 w Q A5.rel ((r3.mono e4.r).mono e5.r) r5 hw'' fun R6 H6 v6 r6 e6 q6 => h7 R6 H6 v6 (A5.step e6 r6) e6 q6
theorem e_chain3 {op op' op'' : CmpOp} {r r' r'' : R2} {o o' o'' : Va → Va → Option Va} (ho : OpR X (compareOp op) r) (ho' : OpR X (compareOp op') r') (ho'' : OpR X (compareOp op'') r'') (hp : Prim2 X r o) (hp' : Prim2 X r' o') (hp'' : Prim2 X r'' o'')
    (ha : OE X R0 H0 W a fa) (hb : OE X R0 H0 W b fb) (hc : OE X R0 H0 W c fc) (hd : OE X R0 H0 W d fd) (hm : lastMarks [op, op', op''] [b, c, d] = false) : OE X R0 H0 W (.Compare a [op, op', op''] [b, c, d] pos) (fChain3 o o' o'' fa fb fc fd) :=
  PEi (pe_chain3 ho ho' ho'' ha hb hc hd hm) fun _ _ _ h => chain3_read hp hp' hp'' h
theorem t_chain3 {op op' op'' : CmpOp} {r r' r'' : R2} {o o' o'' : Va → Va → Option Va} (ho : OpR X (compareOp op) r) (ho' : OpR X (compareOp op') r') (ho'' : OpR X (compareOp op'') r'') (hp : Prim2 X r o) (hp' : Prim2 X r' o') (hp'' : Prim2 X r'' o'') (hbl : ∀ x y w, o'' x y = some w → ∃ k, w = .bl k)
    (ha : OE X R0 H0 W a fa) (hb : OE X R0 H0 W b fb) (hc : OE X R0 H0 W c fc) (hd : OE X R0 H0 W d fd) (hm : lastMarks [op, op', op''] [b, c, d] = false) : OT X R0 H0 W (.Compare a [op, op', op''] [b, c, d] pos) (fTru (fChain3 o o' o'' fa fb fc fd)) :=
  PTi (pt_chain3 ho ho' ho'' ha hb hc hd hm) fun σ H Q h => by
  show tChain3 r r' r'' _ _ _ _ σ H fun x H' => ∃ k, x = .bl k ∧ Q k H'
  refine chain3_read (W := W) hp hp' hp'' ?_
  obtain ⟨R, S, env, A, h⟩ := h
  refine ⟨R, S, env, A, ?_⟩
  unfold fTru at h
  rw [wp_bind] at h
  unfold fChain3 at h ⊢
  simp only [wp_bind] at h ⊢
  refine wp_mono h (fun w1 S1 h1 => wp_mono h1 (fun w2 S2 h2 => ?_) fun _ _ _ z => z) fun _ _ _ z => z
  obtain ⟨k, hw, h3⟩ := some_bl h2
  rw [hw]
  cases k with
  | false =>
    intro R' H' v A' e' r'
    have h4 : KV X.K X.mg R0 H0 repB R H env σ Q false S2 := h3
    exact ⟨false, r'.bl_, h4 R' H' false A' e' rfl⟩
  | true =>
    simp only [if_true] at h3 ⊢
    rw [wp_bind] at h3 ⊢
    refine wp_mono h3 (fun w3 S3 h4 => ?_) fun _ _ _ z => z
    obtain ⟨k', hw', h5⟩ := some_bl h4
    rw [hw']
    cases k' with
    | false =>
      intro R' H' v A' e' r'
      have h6 : KV X.K X.mg R0 H0 repB R H env σ Q false S3 := h5
      exact ⟨false, r'.bl_, h6 R' H' false A' e' rfl⟩
    | true =>
      simp only [if_true] at h5 ⊢
      rw [wp_bind] at h5 ⊢
      refine wp_mono h5 (fun w4 S4 h6 => ?_) fun _ _ _ z => z
      obtain ⟨w, hw'', h7⟩ := lift_wp h6
      obtain ⟨k7, rfl⟩ := hbl _ _ _ hw''
      rw [hw'']
      intro R' H' v A' e' r'
      exact ⟨k7, r'.bl_, h7 R' H' k7 A' e' rfl⟩

/-! ### an own list, read -/
def fOIx (i : Nat) (fb : Evn → Store → Res Va) : Evn → Store → Res Va := fun env S => match ownAt env i with
  | some l => (fb env S).bind fun u S1 => (match u with
    | .int k => lift (atI l k) S1
    | _ => .bad)
  | none => .bad
theorem e_oIx {i : Nat} {x : Str} {xp : Pos} (hN : X.N[i]? = some x) (hv : Vis X.env.scope x) (hd : (x == ("__debug__" : Str)) = false) (hcd : (x == ("__classdict__" : Str)) = false) (hb : OE X R0 H0 W b fb) (hs : PlainIx b) : OE X R0 H0 W (.Subscript (.Name x xp) b pos) (fOIx i fb) :=
  PEi (pe_ix ix_list (pe_var hN hv hd hcd) hb hs) fun σ H Q h => by
    obtain ⟨R, S, env, A, h⟩ := h
    unfold fOIx at h
    cases hl : ownAt env i with
    | none =>
      rw [hl] at h
      exact h.elim
    | some l =>
      rw [hl] at h
      have ho := ownAt_of hl
      obtain ⟨p, vs, h1, h2, h3, h4, h5, h6⟩ := A.own i l ho
      refine ⟨.ref p, h1, ?_⟩
      refine G_bind A h fun R1 S1 H1 u y A1 e1 r1 hh => ?_
      obtain ⟨p', us, g1, g2, g3, g4, g5, g6⟩ := A1.own i l ho
      rw [h1] at g1
      cases g1
      cases u with
      | int k =>
        obtain ⟨w, hw, h7⟩ := lift_wp hh
        obtain ⟨v, hv, rv⟩ := at_ok g3 hw
        exact ⟨p, us, k, v, rfl, r1.int_, SqL.of g2, hv, h7 R1 H1 v A1 Ext.refl rv⟩
      | _ => exact hh.elim
def fOLen (i : Nat) : Evn → Store → Res Va := fun env S => match ownAt env i with
  | some l => .ok (.int l.length) S
  | none => .bad
theorem e_oLen {i : Nat} {x : Str} {xp p : Pos} (hg : Gl X "len") (hm : X.mg "len" = none) (hN : X.N[i]? = some x) (hv : Vis X.env.scope x) (hd : (x == ("__debug__" : Str)) = false) (hcd : (x == ("__classdict__" : Str)) = false) : OE X R0 H0 W (.Call (.Name "len" p) [.Name x xp] [] pos) (fOLen i) :=
  PEi (pe_callB call_len hg hm boot_len (pa_cons (pe_var hN hv hd hcd) pa_nil rfl) (by decide) (by decide) rfl rfl) fun σ H Q h => by
    obtain ⟨R, S, env, A, h⟩ := h
    unfold fOLen at h
    cases hl : ownAt env i with
    | none =>
      rw [hl] at h
      exact h.elim
    | some l =>
      rw [hl] at h
      obtain ⟨q, vs, h1, h2, h3, h4, h5, h6⟩ := A.own i l (ownAt_of hl)
      exact ⟨.ref q, h1, _, _, rfl, .inl ⟨vs, SqL.of h2, rfl⟩, h R H _ A Ext.refl (by rw [RepVs.length h3]; exact .mkInt)⟩
def fOT (i : Nat) : Evn → Store → Res Bool := fun env S => match ownAt env i with
  | some l => .ok (!l.isEmpty) S
  | none => .bad
theorem t_oT {i : Nat} {x : Str} {xp : Pos} (hN : X.N[i]? = some x) (hv : Vis X.env.scope x) (hd : (x == ("__debug__" : Str)) = false) (hcd : (x == ("__classdict__" : Str)) = false) : OT X R0 H0 W (.Name x xp) (fOT i) :=
  PTi (pt_truth (pe_var hN hv hd hcd) fun _ => rfl) fun σ H Q h => by
    obtain ⟨R, S, env, A, h⟩ := h
    unfold fOT at h
    cases hl : ownAt env i with
    | none =>
      rw [hl] at h
      exact h.elim
    | some l =>
      rw [hl] at h
      obtain ⟨q, vs, h1, h2, h3, h4, h5, h6⟩ := A.own i l (ownAt_of hl)
      exact ⟨.ref q, h1, _, .inl ⟨vs, SqL.of h2, by rw [RepVs.empty h3]⟩, h R H _ A Ext.refl rfl⟩

/-! ### sorted data -/
def rSortD (K : PySem.W.Frag) : List V → Hp → VK → Prop := fun vs H Q => ∃ (a : Addr) (bs : List (V × PyData)), vs = [V.ref a] ∧ SqL K H a (bs.map (·.1)) ∧ (∀ b ∈ bs, Dp K H b.1 b.2 ∧ b.2.depth ≤ 8) ∧ PySem.W.AllAlike (bs.map (·.2)) ∧ PySem.W.Sortable (bs.map (·.2)) ∧
  ∀ p, H p = none → Q (.ref p) (upd H p (.lst ((bs.mergeSort (PySem.W.dataLe false fun b => b.2)).map (·.1))))
theorem each_reads {pins : List (Addr × Obj)} {σ : L2.St} {H : Hp} {s : Shared} (I : Inv X pins σ H s) : ∀ {bs : List (V × PyData)} {us : List Value}, Vals (bs.map (·.1)) us → (∀ b ∈ bs, Dp X.K H b.1 b.2 ∧ b.2.depth ≤ 8) → PySem.W.EachIs (fun v (b : V × PyData) => ∃ as, Reads s.heap v b.2 as) us bs
  | [], us, h, _ => by
    cases h
    exact .nil
  | b :: bs, us, h, hd => by
    cases h with
    | cons r t => exact .cons (Dp.reads I b.2 b.1 _ (hd b List.mem_cons_self).1 r) (each_reads I t fun c hc => hd c (List.mem_cons_of_mem _ hc))
theorem cr_sortD (hu : X.A.units + 70 < cLine) : CallR X (.builtin "sorted") (rSortD X.K) := by
  intro pins s σ H vs us Q I r h
  obtain ⟨a, bs, rfl, hs, hd, hal, hso, q⟩ := h
  obtain ⟨its, rv, hl, hz⟩ := I.list hs
  obtain rfl := Vals.ref1 r
  have hz2 : bs.length ≤ sizeLine := by
    rw [List.length_map] at hz
    exact hz
  refine PySem.W.sorted_data (R := fun v (b : V × PyData) => RelV b.1 v) (bs := bs) (enc := fun b => b.2) hl.isList (each_vals rv) (each_reads I rv hd) hal hso hz2 (fun b hb => by have := (hd b hb).2; omega) fun out hol eo => ?_
  obtain ⟨ep, he'⟩ := PyProof.Rows.sortedAll_at s.heap its (List.toArray out)
  have ml : ((bs.mergeSort (PySem.W.dataLe false fun b => b.2)).map (·.1)).length ≤ sizeLine := by rw [List.length_map, List.length_mergeSort]; exact hz2
  exact ⟨.ref _, upd H (s.heap.objs.size + 1) (.lst ((bs.mergeSort (PySem.W.dataLe false fun b => b.2)).map (·.1))), I.laid (t' := s.toks) (fun _ _ => PyProof.Rows.sortedAll_old) (Nat.le_succ _) ⟨ml, out, ep, vals_each eo, he'⟩, rfl, q _ (I.hok.fresh (Nat.le_succ _))⟩
/-- the order of data -/
def vLe (a b : Va) : Bool := PySem.W.dataLe false pd a b
def tup1 : Va → Bool
  | .tup (_ :: _) => true
  | _ => false
def plain1 : Va → Bool
  | .bl _ => true
  | .int _ => true
  | .str _ => true
  | .lst _ => true
  | _ => false
def alikeB (l : List Va) : Bool := l.all fun a => l.all fun b => PySem.W.alike (pd a) (pd b)
def vSD (w : Va) : Option Va := match w with
  | .lst l => if l.all (cl 7) = true ∧ alikeB l = true ∧ (l.all tup1 = true ∨ l.all plain1 = true) ∧ l.length ≤ sizeLine then some (.lst (l.mergeSort vLe)) else none
  | _ => none
def vSort (w : Va) : Option Va := (vSortI w).or (vSD w)
def paired : List Va → List V → List (V × PyData)
  | w :: ws, x :: xs => (x, pd w) :: paired ws xs
  | _, _ => []
theorem paired_fst {K : PySem.W.Frag} {mg : Str → Option Value} {R : RC} : ∀ {ws : List Va} {xs : List V}, RepVs K mg R ws xs → (paired ws xs).map (·.1) = xs
  | [], xs, h => by
    unfold RepVs at h
    subst h
    rfl
  | w :: ws, xs, h => by
    unfold RepVs at h
    obtain ⟨v, r, rfl, h1, h2⟩ := h
    show v :: (paired ws r).map (·.1) = _
    rw [paired_fst h2]
theorem paired_snd {K : PySem.W.Frag} {mg : Str → Option Value} {R : RC} : ∀ {ws : List Va} {xs : List V}, RepVs K mg R ws xs → (paired ws xs).map (·.2) = ws.map pd
  | [], xs, h => by
    unfold RepVs at h
    subst h
    rfl
  | w :: ws, xs, h => by
    unfold RepVs at h
    obtain ⟨v, r, rfl, h1, h2⟩ := h
    show pd w :: (paired ws r).map (·.2) = _
    rw [paired_snd h2]
    rfl
theorem paired_each {K : PySem.W.Frag} {mg : Str → Option Value} {R : RC} : ∀ {ws : List Va} {xs : List V}, RepVs K mg R ws xs → PySem.W.EachIs (fun w (b : V × PyData) => (RepV K mg R w b.1 ∧ b.2 = pd w)) ws (paired ws xs)
  | [], xs, h => by
    unfold RepVs at h
    subst h
    exact .nil
  | w :: ws, xs, h => by
    unfold RepVs at h
    obtain ⟨v, r, rfl, h1, h2⟩ := h
    exact .cons ⟨h1, rfl⟩ (paired_each h2)
theorem c_sortD (hu : X.A.units + 70 < cLine) : ∃ r, CallR X (.builtin "sorted") r ∧ PrimA X r (one vSD) := ⟨_, cr_sortD hu, fun R S H ws vs w Q hr h e k => by
  obtain ⟨a, rfl, e0⟩ := one_of e
  obtain ⟨v, rfl, h0⟩ := rv1 h
  cases a with
  | lst l =>
    have e0 : (if l.all (cl 7) = true ∧ alikeB l = true ∧ (l.all tup1 = true ∨ l.all plain1 = true) ∧ l.length ≤ sizeLine then some (Va.lst (l.mergeSort vLe)) else none) = some w := e0
    by_cases c : l.all (cl 7) = true ∧ alikeB l = true ∧ (l.all tup1 = true ∨ l.all plain1 = true) ∧ l.length ≤ sizeLine
    · rw [if_pos c] at e0
      cases e0
      obtain ⟨c1, c2, c3, c4⟩ := c
      obtain ⟨t, xs, rfl, ht, rs⟩ := h0.lst_
      refine ⟨t, paired l xs, rfl, ?_, fun b hb => ?_, ?_, ?_, fun p hp => ?_⟩
      · rw [paired_fst rs]
        exact SqL.of (hr.le _ _ ht)
      · obtain ⟨u, hu, r2, e⟩ := zip_of_each (paired_each rs) b hb
        have hc := List.all_eq_true.mp c1 u hu
        rw [e]
        exact ⟨dp_of hr u b.1 7 hc r2, by have := (cl_shape u 7 hc).2; omega⟩
      · rw [paired_snd rs]
        intro d hd d' hd'
        obtain ⟨u, hu, rfl⟩ := List.mem_map.mp hd
        obtain ⟨u', hu', rfl⟩ := List.mem_map.mp hd'
        exact List.all_eq_true.mp (List.all_eq_true.mp c2 u hu) u' hu'
      · rw [paired_snd rs]
        rcases c3 with c3 | c3
        · refine .inl fun d hd => ?_
          obtain ⟨u, hu, rfl⟩ := List.mem_map.mp hd
          have := List.all_eq_true.mp c3 u hu
          cases u with
          | tup m =>
            cases m with
            | nil => cases this
            | cons x r => exact ⟨pd x, pds r, rfl⟩
          | _ => cases this
        · refine .inr fun d hd => ?_
          obtain ⟨u, hu, rfl⟩ := List.mem_map.mp hd
          have := List.all_eq_true.mp c3 u hu
          cases u <;> first | (cases this; done) | exact ⟨by simp [pd], fun _ => by simp [pd]⟩
      · have es := PySem.W.sort_each (r := vLe) (s := PySem.W.dataLe false fun (b : V × PyData) => b.2) (paired_each rs) fun p hp q hq => by
          show PySem.W.dataLe false pd p.1 q.1 = PySem.W.dataLe false (fun (b : V × PyData) => b.2) p.2 q.2
          rw [PySem.W.dataLe_eq, PySem.W.dataLe_eq]
          show (!PySem.W.dataLt (pd q.1) (pd p.1)) = (!PySem.W.dataLt q.2.2 p.2.2)
          rw [((paired_each rs).zip p hp).2, ((paired_each rs).zip q hq).2]
        obtain ⟨n1, n2, n3⟩ := hr.newL hp (each_reps (fun _ _ h => h.1) es)
        exact k _ _ _ n1 n2 n3
    · rw [if_neg c] at e0
      cases e0
  | _ => cases e0⟩
end
/-! ### attributes as targets -/
section
variable {X : Cx} {R0 : RC} {H0 : Hp} {W : WX} {o e : Expr} {fa fe : Evn → Store → Res Va} {pos : Pos}
/-- one after another -/
def setFs (ok : String → String → Bool) (fa : Evn → Store → Res Va) : List String → List Va → Evn → Store → RS
  | [], [], env, S => .nx env S
  | f :: fs, u :: us, env, S => (fa env S).toS env fun w S2 => match setFld ok S2 w u f with
    | some S3 => setFs ok fa fs us env S3
    | none => .bad
  | _, _, _, _ => .bad
def sFldT (ok : String → String → Bool) (fa fe : Evn → Store → Res Va) (fs : List String) : Evn → Store → RS := fun env S => (fe env S).toS env fun w S1 => match w with
  | .tup us => setFs ok fa fs us env S1
  | _ => .bad
/-- a.f, a.g, .. of one name -/
inductive Atts (X : Cx) (i : Nat) : List String → List Expr → Prop
  | nil : Atts X i [] []
  | cons {f : String} {fs : List String} {x : Str} {xp pos : Pos} {es : List Expr} : X.N[i]? = some x → Vis X.env.scope x → (x == ("__debug__" : Str)) = false → (x == ("__classdict__" : Str)) = false → Atts X i fs es → Atts X i (f :: fs) (.Attribute (.Name x xp) (Str.ofString f) pos :: es)
def gAtts (K : PySem.W.Frag) (i : Nat) : List String → TGs
  | [] => gNil
  | f :: fs => gCons (gAttr K (tVar i) (Str.ofString f)) (gAtts K i fs)
theorem pgs_atts {i : Nat} : ∀ {fs : List String} {es : List Expr}, Atts X i fs es → PGs X es (gAtts X.K i fs)
  | _, _, .nil => pgs_nil
  | _, _, .cons h1 h2 h3 h4 t => pgs_cons (pg_attr (pe_var h1 h2 h3 h4)) (pgs_atts t) rfl
theorem atts_plain {i : Nat} : ∀ {fs : List String} {es : List Expr}, Atts X i fs es → (assignEach es X.env).length = fs.length ∧ (assignEach es X.env).findIdx? (·.1) = none
  | _, _, .nil => ⟨rfl, rfl⟩
  | _, _, @Atts.cons _ _ f fs x xp pos es h1 h2 h3 h4 t => by
    obtain ⟨q1, q2⟩ := atts_plain t
    have e : assignEach (.Attribute (.Name x xp) (Str.ofString f) pos :: es) X.env = (false, assign (.Attribute (.Name x xp) (Str.ofString f) pos) X.env) :: assignEach es X.env := rfl
    rw [e]
    refine ⟨by rw [List.length_cons, q1, List.length_cons], ?_⟩
    rw [List.findIdx?_cons, q2]
    rfl
theorem setFs_len {ok : String → String → Bool} {fa : Evn → Store → Res Va} {N : Evn → Store → Prop} {T : Va → Store → Prop} {E : String → Option Int → Evn → Store → Prop} (hx : ∀ env S, ∃ o, fa env S = lift o S) : ∀ (fs : List String) (us : List Va) (env : Evn) (S : Store), (setFs ok fa fs us env S).wp N T E → us.length = fs.length
  | [], [], _, _, _ => rfl
  | [], _ :: _, _, _, h => h.elim
  | _ :: _, [], _, _, h => h.elim
  | f :: fs, u :: us, env, S, h => by
    have h : ((fa env S).toS env fun w S2 => (match setFld ok S2 w u f with
      | some S3 => setFs ok fa fs us env S3
      | none => .bad)).wp N T E := h
    obtain ⟨o, ho⟩ := hx env S
    rw [ho] at h
    cases o with
    | none => exact h.elim
    | some w =>
      have h : (match setFld ok S w u f with
        | some S3 => setFs ok fa fs us env S3
        | none => .bad : RS).wp N T E := h
      cases q : setFld ok S w u f with
      | none => rw [q] at h; exact h.elim
      | some S3 =>
        rw [q] at h
        rw [List.length_cons, List.length_cons, setFs_len hx fs us env S3 h]
theorem atts_read {ok : String → String → Bool} {i : Nat} (hok : ∀ c f C, ok c f = true → X.mg (Str.ofString c) = some (.ref C) → NoAttr X.K C (Str.ofString f)) {D : Ends} : ∀ (fs : List String) (us : List Va) (vs : List V) (R : RC) (S : Store) (H : Hp) (env : Evn) (σ : L2.St), At X.K X.mg R0 H0 R S H env σ → RepVs X.K X.mg R us vs →
    (setFs ok (fVar i) fs us env S).wp (KN X.K X.mg R0 H0 R D.nx) (KT X.K X.mg R0 H0 R D.rt) (KX X.K X.mg R0 H0 W R) → gAtts X.K i fs vs σ H fun σ' H' => D.nx σ' H'
  | [], [], vs, R, S, H, env, σ, A, r, h => by
    unfold RepVs at r
    exact ⟨r, h R H σ A (RLe.refl R)⟩
  | [], _ :: _, _, _, _, _, _, _, _, _, h => h.elim
  | _ :: _, [], _, _, _, _, _, _, _, _, h => h.elim
  | f :: fs, u :: us, vs, R, S, H, env, σ, A, r, h => by
    unfold RepVs at r
    obtain ⟨y, rr, rfl, r1, r2⟩ := r
    refine ⟨y, rr, rfl, ?_⟩
    have h : ((fVar i env S).toS env fun w S2 => (match setFld ok S2 w u f with
      | some S3 => setFs ok (fVar i) fs us env S3
      | none => .bad)).wp (KN X.K X.mg R0 H0 R D.nx) (KT X.K X.mg R0 H0 R D.rt) (KX X.K X.mg R0 H0 W R) := h
    cases e : env[i]? with
    | none =>
      have : fVar i env S = .bad := by unfold fVar; rw [e]
      rw [this] at h
      exact h.elim
    | some sl =>
      cases sl with
      | val w =>
        have e2 : fVar i env S = .ok w S := by unfold fVar; rw [e]
        rw [e2] at h
        have h : (match setFld ok S w u f with
          | some S3 => setFs ok (fVar i) fs us env S3
          | none => .bad : RS).wp _ _ _ := h
        obtain ⟨v, hv, rv⟩ := A.val i w e
        cases q : setFld ok S w u f with
        | none => rw [q] at h; exact h.elim
        | some S3 =>
          rw [q] at h
          cases w with
          | ref j =>
            have q : (match S[j]? with
              | some (.ins c fs) => if ok c f && decide (fs.length < 1000) then some (S.set j (.ins c (putS f u fs))) else none
              | _ => none) = some S3 := q
            cases qS : S[j]? with
            | none => rw [qS] at q; cases q
            | some so =>
              rw [qS] at q
              cases so with
              | ins c gs =>
                have q : (if (ok c f && decide (gs.length < 1000)) = true then some (S.set j (.ins c (putS f u gs))) else none) = some S3 := q
                by_cases hk : (ok c f && decide (gs.length < 1000)) = true
                · rw [if_pos hk] at q
                  cases q
                  rw [Bool.and_eq_true] at hk
                  obtain ⟨a, rfl, hi⟩ := rv.ref_
                  obtain ⟨b, hb, g, C, dx, vs, hm, hc, hna, hH, rf⟩ := A.rel.objAt qS
                  rw [hi] at hb
                  cases hb
                  have nf := hok c f C hk.1 hm
                  refine ⟨.ref a, hv, a, C, dx, vs, rfl, hH, hc, nf, by rw [rf.length]; exact of_decide_eq_true hk.2, ?_⟩
                  have nfs : ∀ p ∈ putS f u gs, NoAttr X.K C (Str.ofString p.1) := fun p hp => by
                    rcases putS_mem hp with e | e
                    · rw [e]
                      exact nf
                    · exact hna p e
                  obtain ⟨rel, ext⟩ := A.rel.write (so := .ins c (putS f u gs)) (o := .ins C dx (putF (Str.ofString f) y vs)) hi g ⟨g, C, dx, _, hm, hc, nfs, upd_same, rf.put r1⟩
                  exact atts_read hok fs us rr R _ _ env σ (A.step ext rel) r2 h
                · rw [if_neg hk] at q
                  cases q
              | _ => cases q
          | _ => cases q
      | no =>
        have : fVar i env S = .bad := by unfold fVar; rw [e]
        rw [this] at h
        exact h.elim
      | own l =>
        have : fVar i env S = .bad := by unfold fVar; rw [e]
        rw [this] at h
        exact h.elim
theorem s_asgA {ok : String → String → Bool} {i : Nat} {fs : List String} {es : List Expr} {k : Nat} {tp : Pos} (hc : X.calm = true) (hok : ∀ c f C, ok c f = true → X.mg (Str.ofString c) = some (.ref C) → NoAttr X.K C (Str.ofString f)) (ha : Atts X i fs es) (he : OE X R0 H0 W e fe)
    (hs : swapsWithSole [.Tuple es k tp] e pos.line X.env = pure false) (hw : swappedStores [.Tuple es k tp] e X.env = pure none) (h1 : (assignEach [.Tuple es k tp] X.env).map (·.2) = [assign (.Tuple es k tp) X.env]) :
    OS X R0 H0 W (.Assign [.Tuple es k tp] e pos) (sFldT ok (fVar i) fe fs) := PSi (ps_asg he (pg_tup hc (pgs_atts ha) (atts_plain ha).1 (atts_plain ha).2) hs hw h1) fun D σ H h => by
  obtain ⟨R, S, env, A, h⟩ := h
  refine S_bind A h fun R1 S1 H1 w y A1 e1 r1 h1 => ?_
  cases w with
  | tup us =>
    obtain ⟨a, vs, rfl, ht, rs⟩ := r1.tup_
    have hl := setFs_len (ok := ok) (fa := fVar i) (fun env S => by
      unfold fVar
      cases q : env[i]? with
      | none => exact ⟨none, rfl⟩
      | some sl => cases sl <;> first | exact ⟨none, rfl⟩ | exact ⟨some _, rfl⟩) fs us env S1 h1
    exact ⟨a, vs, rfl, A1.rel.sqT ht, by rw [RepVs.length rs]; exact hl, atts_read hok fs us vs R1 S1 H1 env σ A1 rs h1⟩
  | _ => exact h1.elim
theorem c_sort (hu : X.A.units + 70 < cLine) : ∃ r, CallR X (.builtin "sorted") r ∧ PrimA X r (one vSort) := by
  obtain ⟨r, h1, h2⟩ := c_sortI (X := X)
  obtain ⟨r', h1', h2'⟩ := c_sortD (X := X) hu
  refine ⟨_, h1.or h1', fun R S H ws vs w Q hr h e k => ?_⟩
  obtain ⟨a, rfl, e0⟩ := one_of e
  have e0 : (vSortI a).or (vSD a) = some w := e0
  cases q : vSortI a with
  | some u =>
    rw [q] at e0
    cases e0
    exact .inl (h2 R S H [a] vs w Q hr h q k)
  | none =>
    rw [q] at e0
    exact .inr (h2' R S H [a] vs w Q hr h e0 k)
end
end Mi
end
section
/-! Mi, part Y: texts: their methods, numbers and signs. -/
namespace Mi
open PySem PySem.Spec PyProof.Rows L2 TL
/-- methods of a text, with one argument -/
inductive TM where
  | split | join | rfind | count | starts
def TM.name : TM → String
  | .split => "split" | .join => "join" | .rfind => "rfind" | .count => "count" | .starts => "startswith"
def strsOf : List Va → Option (List (List Nat))
  | [] => some []
  | .str a :: r => (strsOf r).map (a :: ·)
  | _ => none
theorem strsOf_map : ∀ ps : List (List Nat), strsOf (ps.map .str) = some ps
  | [] => rfl
  | p :: ps => by
    show (strsOf (ps.map .str)).map (p :: ·) = _
    rw [strsOf_map ps]
    rfl
theorem strsOf_eq : ∀ {ws : List Va} {ps : List (List Nat)}, strsOf ws = some ps → ws = ps.map .str
  | [], ps, h => by
    cases h
    rfl
  | w :: ws, ps, h => by
    cases w with
    | str a =>
      have h : (strsOf ws).map (a :: ·) = some ps := h
      cases q : strsOf ws with
      | none => rw [q] at h; cases h
      | some qs =>
        rw [q] at h
        cases h
        rw [strsOf_eq q]
        rfl
    | _ => cases h
abbrev mkT (l : List Nat) : Str := ⟨l.toArray⟩
theorem tl_mkT (l : List Nat) : tl (mkT l) = l := rfl
theorem mkT_len (l : List Nat) : (mkT l).length = l.length := by
  show l.toArray.size = _
  simp
def splitT (a b : List Nat) : Option Va := if b ≠ [] ∧ b.all (· < 256) = true ∧ a.length + 2 ≤ sizeLine then some (.lst ((spl b 0 [] a).map .str)) else none
def joinT (a : List Nat) (l : List Va) : Option Va := match strsOf l with
  | some ps => if (ps.map (·.length)).sum + ps.length * a.length ≤ 16777216 then some (.str (joinL a ps)) else none
  | none => none
def tmV : TM → List Nat → Va → Option Va
  | .split, a, .str b => splitT a b
  | .join, a, .lst l => joinT a l
  | .join, a, .tup l => joinT a l
  | .rfind, a, .str b => some (.int (Txt.rfind (mkT a) (mkT b)))
  | .count, a, .str b => some (.int (Txt.count (mkT a) (mkT b)))
  | .starts, a, .str b => some (.bl (Txt.startswith (mkT a) (mkT b)))
  | _, _, _ => none
section
variable (X : Cx)
def PrimT (r : V → List V → Hp → VK → Prop) (o : List Nat → Va → Option Va) : Prop := ∀ (R : RC) (S : Store) (H : Hp) (a : List Nat) (w2 : Va) (y : V) (w : Va) (Q : VK), Rel X.K X.mg R S H → RepV X.K X.mg R w2 y → o a w2 = some w →
  (∀ (R' : RC) (H' : Hp) (v : V), Rel X.K X.mg R' S H' → Ext R R' H H' → RepV X.K X.mg R' w v → Q v H') → r (.str (mkT a)) [y] H Q
end
def fTmK (o : List Nat → Va → Option Va) (fa : Evn → Store → Res Va) (env : Evn) (w : Va) (S : Store) : Res Va := match w with
  | .str a => (fa env S).bind fun w2 S2 => lift (o a w2) S2
  | _ => .bad
def fTm (o : List Nat → Va → Option Va) (fo fa : Evn → Store → Res Va) : Evn → Store → Res Va := fun env S => (fo env S).bind (fTmK o fa env)
section
variable {X : Cx} {R0 : RC} {H0 : Hp} {W : WX} {o e : Expr} {fo fa : Evn → Store → Res Va} {apos pos : Pos}
theorem e_tm {id : String} {name : Str} {r : V → List V → Hp → VK → Prop} {f : List Nat → Va → Option Va} (sl : Slot "str" name id) (ty : typeOf (.builtin id) = pure (.type "method_descriptor")) (rule : MtR X id r) (hp : PrimT X r f) (ho : OE X R0 H0 W o fo) (he : OE X R0 H0 W e fa)
    (hs : starEach [e] X.env = [(false, eval e X.env)]) (hbase : attributeBase o name X.env (eval o X.env) = eval o X.env) (hline : (apos.endLine == pos.line) = true) : OE X R0 H0 W (.Call (.Attribute o name apos) [e] [] pos) (fTm f fo fa) :=
  PEi (pe_m1 sl ty rule ho he hs hbase hline) fun σ H Q h => by
    obtain ⟨R, S, env, A, h⟩ := h
    refine G_bind A h fun R1 S1 H1 w1 x A1 e1 r1 h1 => ?_
    cases w1 with
    | str a =>
      rw [r1.str_]
      refine ⟨⟨_, rfl⟩, ?_⟩
      refine G_bind A1 h1 fun R2 S2 H2 w2 y A2 e2 r2 h2 => ?_
      obtain ⟨w, hw, h3⟩ := lift_wp h2
      exact hp R2 S2 H2 a w2 y w Q A2.rel r2 hw fun R' H' v r' e' q' => h3 R' H' v (A2.step e' r') e' q'
    | _ => exact False.elim h1
theorem reps_strs {K : PySem.W.Frag} {mg : Str → Option Value} {R : RC} : ∀ ps : List (List Nat), RepVs K mg R (ps.map .str) ((ps.map mkT).map V.str)
  | [] => .nil
  | p :: ps => .cons .mkStr (reps_strs ps)
theorem reps_strs' {K : PySem.W.Frag} {mg : Str → Option Value} {R : RC} : ∀ {ps : List (List Nat)} {vs : List V}, RepVs K mg R (ps.map .str) vs → vs = (ps.map mkT).map V.str
  | [], vs, h => by
    unfold RepVs at h
    exact h
  | p :: ps, vs, h => by
    have h : RepVs K mg R (.str p :: ps.map .str) vs := h
    unfold RepVs at h
    obtain ⟨v, r, rfl, h1, h2⟩ := h
    rw [h1.str_, reps_strs' h2]
    rfl
theorem splitT_of {a b : List Nat} {w : Va} (h : splitT a b = some w) : (b ≠ [] ∧ b.all (· < 256) = true ∧ a.length + 2 ≤ sizeLine) ∧ w = .lst ((spl b 0 [] a).map .str) := by
  unfold splitT at h
  by_cases c : b ≠ [] ∧ b.all (· < 256) = true ∧ a.length + 2 ≤ sizeLine
  · rw [if_pos c] at h
    exact ⟨c, (Option.some.inj h).symm⟩
  · rw [if_neg c] at h
    cases h
theorem split_mk {a b : List Nat} (h1 : b ≠ []) (h2 : b.all (· < 256) = true) : Txt.split (mkT a) (mkT b) = (spl b 0 [] a).map mkT := by
  refine map_tl_inj ?_
  rw [split_spl (mkT a) (mkT b) h1 (kind_ok (by simpa using h2)), List.map_map]
  show spl b 0 [] a = (spl b 0 [] a).map fun l => l
  simp
theorem t_split : PrimT X (fun x xs H Q => ∃ a b, x = .str a ∧ xs = [.str b] ∧ (b.length == 0) = false ∧ a.length + 2 ≤ sizeLine ∧ rNewStrs (Txt.split a b) H Q) (tmV .split) := fun R S H a w2 y w Q hr h2 e k => by
  cases w2 with
  | str b =>
    obtain ⟨⟨c1, c2, c3⟩, rfl⟩ := splitT_of e
    rw [h2.str_]
    refine ⟨mkT a, mkT b, rfl, rfl, ?_, by rw [mkT_len]; exact c3, fun p hp => ?_⟩
    · rw [mkT_len]
      cases b with
      | nil => exact absurd rfl c1
      | cons _ _ => rfl
    · rw [split_mk c1 c2]
      obtain ⟨n1, n2, n3⟩ := hr.newL hp (reps_strs (spl b 0 [] a))
      exact k _ _ _ n1 n2 n3
  | _ => cases e
theorem join_mk (a : List Nat) (ps : List (List Nat)) : Txt.join (mkT a) (ps.map mkT) = mkT (joinL a ps) := by
  have : tl (Txt.join (mkT a) (ps.map mkT)) = joinL a ps := by
    rw [join_eq, tl_join, List.map_map]
    show joinL a (ps.map fun l => l) = _
    simp
  rw [← mk_tl (Txt.join (mkT a) (ps.map mkT)), this]
theorem joinT_of {a : List Nat} {l : List Va} {w : Va} (h : joinT a l = some w) : ∃ ps, l = ps.map .str ∧ (ps.map (·.length)).sum + ps.length * a.length ≤ 16777216 ∧ w = .str (joinL a ps) := by
  unfold joinT at h
  cases q : strsOf l with
  | none => rw [q] at h; cases h
  | some ps =>
    rw [q] at h
    have h : (if (ps.map (·.length)).sum + ps.length * a.length ≤ 16777216 then some (Va.str (joinL a ps)) else none) = some w := h
    by_cases c : (ps.map (·.length)).sum + ps.length * a.length ≤ 16777216
    · rw [if_pos c] at h
      exact ⟨ps, strsOf_eq q, c, (Option.some.inj h).symm⟩
    · rw [if_neg c] at h
      cases h
theorem mk_lens (ps : List (List Nat)) : ((ps.map mkT).map (·.length)).sum = (ps.map (·.length)).sum := by
  rw [List.map_map]
  congr 1
theorem t_join : PrimT X (fun x xs H Q => ∃ a p, ∃ ys : List Str, x = .str a ∧ xs = [.ref p] ∧ (SqL X.K H p (ys.map V.str) ∨ SqT X.K H p (ys.map V.str)) ∧ (ys.map (·.length)).sum + ys.length * a.length ≤ 16777216 ∧ Q (.str (Txt.join a ys)) H) (tmV .join) := fun R S H a w2 y w Q hr h2 e k => by
  have fin : ∀ (p : Addr) (ps : List (List Nat)), (SqL X.K H p ((ps.map mkT).map V.str) ∨ SqT X.K H p ((ps.map mkT).map V.str)) → (ps.map (·.length)).sum + ps.length * a.length ≤ 16777216 → w = .str (joinL a ps) →
      ∃ a' p', ∃ ys : List Str, V.str (mkT a) = .str a' ∧ [V.ref p] = [.ref p'] ∧ (SqL X.K H p' (ys.map V.str) ∨ SqT X.K H p' (ys.map V.str)) ∧ (ys.map (·.length)).sum + ys.length * a'.length ≤ 16777216 ∧ Q (.str (Txt.join a' ys)) H := by
    rintro p ps hsq c rfl
    refine ⟨mkT a, p, ps.map mkT, rfl, rfl, hsq, ?_, ?_⟩
    · rw [mk_lens, List.length_map, mkT_len]
      exact c
    · rw [join_mk]
      exact k R H _ hr Ext.refl .mkStr
  cases w2 with
  | lst l =>
    obtain ⟨ps, rfl, c, ew⟩ := joinT_of e
    obtain ⟨p, vs, rfl, hg, rs⟩ := h2.lst_
    have ev := reps_strs' rs
    subst ev
    exact fin p ps (.inl (SqL.of (hr.le _ _ hg))) c ew
  | tup l =>
    obtain ⟨ps, rfl, c, ew⟩ := joinT_of e
    obtain ⟨p, vs, rfl, hg, rs⟩ := h2.tup_
    have ev := reps_strs' rs
    subst ev
    exact fin p ps (.inr (hr.sqT hg)) c ew
  | _ => cases e
theorem t_rfind : PrimT X (fun x xs H Q => ∃ a b, x = .str a ∧ xs = [.str b] ∧ Q (.int (Txt.rfind a b)) H) (tmV .rfind) := fun R S H a w2 y w Q hr h2 e k => by
  cases w2 with
  | str b =>
    cases e
    rw [h2.str_]
    exact ⟨_, _, rfl, rfl, k R H _ hr Ext.refl .mkInt⟩
  | _ => cases e
theorem t_count : PrimT X (fun x xs H Q => ∃ a b, x = .str a ∧ xs = [.str b] ∧ Q (.int (Txt.count a b)) H) (tmV .count) := fun R S H a w2 y w Q hr h2 e k => by
  cases w2 with
  | str b =>
    cases e
    rw [h2.str_]
    exact ⟨_, _, rfl, rfl, k R H _ hr Ext.refl .mkInt⟩
  | _ => cases e
theorem t_starts : PrimT X (fun x xs H Q => ∃ a b, x = .str a ∧ xs = [.str b] ∧ Q (.bl (Txt.startswith a b)) H) (tmV .starts) := fun R S H a w2 y w Q hr h2 e k => by
  cases w2 with
  | str b =>
    cases e
    rw [h2.str_]
    exact ⟨_, _, rfl, rfl, k R H _ hr Ext.refl .mkBl⟩
  | _ => cases e
theorem tm_ok (m : TM) : ∃ id r, Slot "str" (Str.ofString m.name) id ∧ typeOf (.builtin id) = pure (.type "method_descriptor") ∧ MtR X id r ∧ PrimT X r (tmV m) := by
  cases m with
  | split => exact ⟨_, _, F.slot_str_split, F.type_str_split, mt_split, t_split⟩
  | join => exact ⟨_, _, F.slot_str_join, F.type_str_join, mt_join, t_join⟩
  | rfind => exact ⟨_, _, F.slot_str_rfind, F.type_str_rfind, mt_rfind, t_rfind⟩
  | count => exact ⟨_, _, F.slot_str_count, F.type_str_count, mt_count, t_count⟩
  | starts => exact ⟨_, _, F.slot_str_startswith, F.type_str_startswith, mt_startswith, t_starts⟩
/-! ### numbers and signs -/
def numZ (i : Int) : List Nat := if 0 ≤ i then numL i.toNat else 45 :: numL i.natAbs
theorem numZ_ok (i : Int) : Str.ofString (toString i) = mkT (numZ i) := by
  have key : tl (Str.ofString (toString i)) = numZ i := by
    unfold numZ
    by_cases c : 0 ≤ i
    · rw [if_pos c]
      have ei : ((i.toNat : Nat) : Int) = i := by omega
      have := tl_num i.toNat
      rw [ei] at this
      exact this
    · rw [if_neg c]
      obtain ⟨n, rfl⟩ : ∃ n : Nat, i = Int.negSucc n := by
        cases i with
        | ofNat n => exact absurd (Int.natCast_nonneg n) c
        | negSucc n => exact ⟨n, rfl⟩
      have h1 : toString (Int.negSucc n) = "-" ++ toString (((n + 1 : Nat) : Int)) := rfl
      rw [h1]
      have h2 : tl (Str.ofString ("-" ++ toString (((n + 1 : Nat) : Int)))) = 45 :: tl (Str.ofString (toString (((n + 1 : Nat) : Int)))) := by
        rw [Str.ofString_eq_toList, Str.ofString_eq_toList, String.toList_append]
        rfl
      rw [h2, tl_num]
      rfl
  rw [← mk_tl (Str.ofString (toString i)), key]
def vStrI : Va → Option Va
  | .int i => if i.natAbs.log2 < 1920 then some (.str (numZ i)) else none
  | _ => none
theorem c_str : ∃ r, CallR X (.type "str") r ∧ PrimA X r (one vStrI) := ⟨_, call_str_int, fun R S H ws vs w Q hr h e k => by
  obtain ⟨a, rfl, e0⟩ := one_of e
  have e := e0
  obtain ⟨v, rfl, h0⟩ := rv1 h
  have h := h0
  cases a with
  | int i =>
    have e : (if i.natAbs.log2 < 1920 then some (Va.str (numZ i)) else none) = some w := e
    by_cases c : i.natAbs.log2 < 1920
    · rw [if_pos c] at e
      cases e
      rw [h.int_]
      refine ⟨i, rfl, c, ?_⟩
      rw [numZ_ok]
      exact k R H _ hr Ext.refl .mkStr
    · rw [if_neg c] at e
      cases e
  | _ => cases e⟩
def vOrd : Va → Option Va
  | .str [c] => some (.int (c : Int))
  | _ => none
theorem c_ord : ∃ r, CallR X (.builtin "ord") r ∧ PrimA X r (one vOrd) := ⟨_, call_ord, fun R S H ws vs w Q hr h e k => by
  obtain ⟨a, rfl, e0⟩ := one_of e
  have e := e0
  obtain ⟨v, rfl, h0⟩ := rv1 h
  have h := h0
  cases a with
  | str l =>
    match l, e, h with
    | [c], e, h =>
      cases e
      rw [h.str_]
      exact ⟨_, rfl, rfl, k R H _ hr Ext.refl .mkInt⟩
    | [], e, _ => cases e
    | _ :: _ :: _, e, _ => cases e
  | _ => cases e⟩
end
end Mi
end
section
/-! Mi, part Z: texts: padded with a sign, looked up in a tuple, read as numbers, a sign in a text. -/
namespace PySem
open Builtin Builtin.Str
theorem gives_str_rjustF (x : Str) (i : Int) (c : Nat) (t u v : Tok) (hr : (decide (i < -(2 ^ 63 : Int)) || decide (i ≥ 2 ^ 63)) = false) (hl : tooLong i.toNat = false) :
    Gives («str.rjust» ⟨[.str x t, .int i u, .str ⟨#[c]⟩ v], []⟩) (if i ≤ x.length then .val (.str x t) else .str (padded x (i.toNat - x.length) 0 c)) := by
  show Gives (do
             let width ← asSsize s!"str.{"rjust"}" (.int i u)
             if width ≤ x.length then (do rule s!"str.{"rjust"}.long-enough"; ret (.str x t)) else
             if tooLong width.toNat = true then unsupported s!"str.{"rjust"}:memory" else retStr (if false = true then padded x 0 (width.toNat - x.length) c else padded x (width.toNat - x.length) 0 c)) _
  rw [asSsize_int _ _ _ hr]
  show Gives (if i ≤ x.length then (do rule s!"str.{"rjust"}.long-enough"; ret (.str x t)) else if tooLong i.toNat = true then unsupported s!"str.{"rjust"}:memory" else retStr (if false = true then padded x 0 (i.toNat - x.length) c else padded x (i.toNat - x.length) 0 c)) _
  rw [hl]
  by_cases h : i ≤ (x.length : Int)
  · rw [if_pos h, if_pos h]
    exact .rule (.of_eq rfl)
  · rw [if_neg h, if_neg h]
    exact .of_eq rfl
end PySem
namespace L2
open PySem PySem.Spec PyProof.Rows
section
variable {X : Cx}
/-- s.rjust(n, sign) -/
theorem mt_rjustF : MtR X "str.rjust" (fun x xs H Q => ∃ (a : Str) (i : Int) (c : Nat), x = .str a ∧ xs = [.int i, .str ⟨#[c]⟩] ∧ PadOk i = true ∧ Q (.str (if i ≤ a.length then a else Builtin.Str.padded a (i.toNat - a.length) 0 c)) H) := by
  intro pins s σ H x xs v us Q I rx rs h
  obtain ⟨a, i, c, rfl, rfl, hp, h⟩ := h
  obtain ⟨t, rfl⟩ := rx
  cases rs with
  | cons r1 rs =>
    cases rs with
    | cons r2 rs =>
      cases rs
      obtain ⟨u, rfl⟩ := r1
      obtain ⟨z, rfl⟩ := r2
      exact PySem.call_gives PySem.F.slot_str_rjust (typeIs_str _ _ _) PySem.F.entry_str_rjust (PySem.F.args_str_rjust_3 _ _ _) (PySem.gives_str_rjustF a i c t u z (PadOk.parts hp).1 (PadOk.parts hp).2) (post_val_or_made (fits_padL c (PadOk.parts hp).2) fun t' k => ⟨.str _, H, I.tok k, ⟨t', rfl⟩, h⟩)
end
end L2
namespace Mi
open PySem PySem.Spec PyProof.Rows L2 TL
section
variable {X : Cx} {R0 : RC} {H0 : Hp} {W : WX} {o e : Expr} {fo fa fb : Evn → Store → Res Va} {apos pos : Pos}
/-! ### the place in a tuple of texts -/
def idxL (z : List Nat) : List (List Nat) → Option Nat
  | [] => none
  | p :: ps => if p = z then some 0 else (idxL z ps).map (· + 1)
theorem idxL_ok : ∀ {ps : List (List Nat)} {z : List Nat} {j : Nat}, idxL z ps = some j → ps[j]? = some z ∧ ∀ m, m < j → ps[m]? ≠ some z
  | p :: ps, z, j, h => by
    have h : (if p = z then some 0 else (idxL z ps).map (· + 1)) = some j := h
    by_cases c : p = z
    · rw [if_pos c] at h
      cases h
      exact ⟨by rw [c]; rfl, fun m hm => absurd hm (Nat.not_lt_zero m)⟩
    · rw [if_neg c] at h
      cases q : idxL z ps with
      | none => rw [q] at h; cases h
      | some k =>
        rw [q] at h
        cases h
        obtain ⟨h1, h2⟩ := idxL_ok q
        refine ⟨h1, fun m hm => ?_⟩
        cases m with
        | zero => exact fun z => c (Option.some.inj z)
        | succ m => exact h2 m (Nat.lt_of_succ_lt_succ hm)
def tixV (l : List Va) (w : Va) : Option Va := match w with
  | .str z => match strsOf l with
    | some ps => (idxL z ps).map fun j => .int (j : Int)
    | none => none
  | _ => none
def fTixL (l : List Va) (fa : Evn → Store → Res Va) : Evn → Store → Res Va := fun env S => (fa env S).bind fun w2 S2 => lift (tixV l w2) S2
def fTix (o : Option Va) (fa : Evn → Store → Res Va) : Evn → Store → Res Va := match o with
  | some (.tup l) => fTixL l fa
  | _ => fun _ _ => .bad
theorem tixV_of {l : List Va} {w u : Va} (h : tixV l w = some u) : ∃ z ps j, w = .str z ∧ l = ps.map .str ∧ idxL z ps = some j ∧ u = .int (j : Int) := by
  cases w with
  | str z =>
    have h : (match strsOf l with | some ps => (idxL z ps).map fun j => Va.int (j : Int) | none => none) = some u := h
    cases q : strsOf l with
    | none => rw [q] at h; cases h
    | some ps =>
      rw [q] at h
      have h : (idxL z ps).map (fun j => Va.int (j : Int)) = some u := h
      cases q2 : idxL z ps with
      | none => rw [q2] at h; cases h
      | some j =>
        rw [q2] at h
        exact ⟨z, ps, j, rfl, strsOf_eq q, q2, (Option.some.inj h).symm⟩
  | _ => cases h
theorem e_tix {x : Str} {px : Pos} {a : Addr} {ob : Obj} {l : List Va} (hn : PE X (.Name x px) (tC (.ref a))) (hk : X.K.lookup a = some ob) (hc : ob.cls = .type "tuple") (hd : ob.dict = none) (hr : ∀ R, RepV X.K X.mg R (.tup l) (.ref a)) (he : OE X R0 H0 W e fa)
    (hs : starEach [e] X.env = [(false, eval e X.env)]) (hbase : attributeBase (.Name x px) (Str.ofString "index") X.env (eval (.Name x px) X.env) = eval (.Name x px) X.env) (hline : (apos.endLine == pos.line) = true) :
    OE X R0 H0 W (.Call (.Attribute (.Name x px) (Str.ofString "index") apos) [e] [] pos) (fTixL l fa) :=
  PEi (pe_bm PySem.F.plainAttrs_tuple PySem.F.slot_tuple_index PySem.F.type_tuple_index mt_tup_index hn (pa_cons he pa_nil hs) hbase (few1 hs) hline hs rfl) fun σ H Q h => by
    refine ⟨.inr (.inl ⟨rfl, ob, hk, hc, hd⟩), ?_⟩
    obtain ⟨R, S, env, A, h⟩ := h
    refine G_bind A h fun R2 S2 H2 w2 y A2 e2 r2 h2 => ?_
    obtain ⟨w, hw, h3⟩ := lift_wp h2
    obtain ⟨z, ps, j, rfl, rfl, hj, rfl⟩ := tixV_of hw
    obtain ⟨i1, i2⟩ := idxL_ok hj
    obtain ⟨p, vs, ep, hg, rs⟩ := (hr R2).tup_
    cases ep
    have ev := reps_strs' rs
    subst ev
    refine ⟨_, ps.map mkT, mkT z, j, rfl, by rw [r2.str_], A2.rel.sqT hg, ?_, fun m hm => ?_, h3 R2 H2 _ A2 Ext.refl .mkInt⟩
    · rw [List.getElem?_map, i1]
      rfl
    · rw [List.getElem?_map]
      intro hz
      obtain ⟨q, q1, q2⟩ := Option.map_eq_some_iff.mp hz
      have : q = z := congrArg tl q2
      rw [this] at q1
      exact i2 m hm q1
/-! ### a number out of a text -/
def vIntS : Va → Option Va
  | .str a => if a.length ≤ 640 then (intText? (mkT a)).map .int else none
  | _ => none
theorem c_intS : ∃ r, CallR X (.type "int") r ∧ PrimA X r (one vIntS) := ⟨_, call_int_str, fun R S H ws vs w Q hr h e k => by
  obtain ⟨a, rfl, e0⟩ := one_of e
  have e := e0
  obtain ⟨v, rfl, h0⟩ := rv1 h
  have h := h0
  cases a with
  | str a =>
    have e : (if a.length ≤ 640 then (intText? (mkT a)).map Va.int else none) = some w := e
    by_cases c : a.length ≤ 640
    · rw [if_pos c] at e
      cases q : intText? (mkT a) with
      | none => rw [q] at e; cases e
      | some n =>
        rw [q] at e
        cases e
        rw [h.str_]
        exact ⟨mkT a, n, rfl, q, by rw [mkT_len]; exact c, k R H _ hr Ext.refl .mkInt⟩
    · rw [if_neg c] at e
      cases e
  | _ => cases e⟩
/-! ### padded with a sign -/
def padV : Va → Va → Va → Option Va
  | .str a, .int i, .str [c] => if PadOk i = true then some (.str (if i ≤ (a.length : Int) then a else List.replicate (i.toNat - a.length) c ++ a)) else none
  | _, _, _ => none
def fPadK (fa fb : Evn → Store → Res Va) (env : Evn) (w : Va) (S : Store) : Res Va := match w with
  | .str a => (fa env S).bind fun w2 S2 => (fb env S2).bind fun w3 S3 => lift (padV (.str a) w2 w3) S3
  | _ => .bad
def fPad (fo fa fb : Evn → Store → Res Va) : Evn → Store → Res Va := fun env S => (fo env S).bind (fPadK fa fb env)
theorem padV_of {a : List Nat} {w2 w3 w : Va} (h : padV (.str a) w2 w3 = some w) : ∃ i c, w2 = .int i ∧ w3 = .str [c] ∧ PadOk i = true ∧ w = .str (if i ≤ (a.length : Int) then a else List.replicate (i.toNat - a.length) c ++ a) := by
  cases w2 with
  | int i =>
    cases w3 with
    | str l =>
      match l, h with
      | [c], h =>
        have h : (if PadOk i = true then some (Va.str (if i ≤ (a.length : Int) then a else List.replicate (i.toNat - a.length) c ++ a)) else none) = some w := h
        by_cases q : PadOk i = true
        · rw [if_pos q] at h
          exact ⟨i, c, rfl, rfl, q, (Option.some.inj h).symm⟩
        · rw [if_neg q] at h
          cases h
      | [], h => cases h
      | _ :: _ :: _, h => cases h
    | _ => cases h
  | _ => cases w3 <;> cases h
theorem pad_mk (a : List Nat) (i : Int) (c : Nat) : (if i ≤ ((mkT a).length : Int) then mkT a else Builtin.Str.padded (mkT a) (i.toNat - (mkT a).length) 0 c) = mkT (if i ≤ (a.length : Int) then a else List.replicate (i.toNat - a.length) c ++ a) := by
  rw [mkT_len]
  by_cases h : i ≤ (a.length : Int)
  · rw [if_pos h, if_pos h]
  · rw [if_neg h, if_neg h]
    refine ext_tl ?_
    show (Array.replicate (i.toNat - a.length) c ++ a.toArray ++ Array.replicate 0 c).toList = List.replicate (i.toNat - a.length) c ++ a
    simp
theorem e_pad {e2 : Expr} (ho : OE X R0 H0 W o fo) (he : OE X R0 H0 W e fa) (he2 : OE X R0 H0 W e2 fb) (hs : starEach [e, e2] X.env = [(false, eval e X.env), (false, eval e2 X.env)]) (hs2 : starEach [e2] X.env = [(false, eval e2 X.env)]) (hbase : attributeBase o (Str.ofString "rjust") X.env (eval o X.env) = eval o X.env) (hline : (apos.endLine == pos.line) = true) :
    OE X R0 H0 W (.Call (.Attribute o (Str.ofString "rjust") apos) [e, e2] [] pos) (fPad fo fa fb) :=
  PEi (pe_bm PySem.F.plainAttrs_str PySem.F.slot_str_rjust PySem.F.type_str_rjust mt_rjustF ho (pa_cons he (pa_cons he2 pa_nil hs2) (by rw [hs, hs2])) hbase (by rw [hs]; rfl) hline (by rw [hs, hs2]) (by rw [hs2]; rfl)) fun σ H Q h => by
    obtain ⟨R, S, env, A, h⟩ := h
    refine G_bind A h fun R1 S1 H1 w1 x A1 e1 r1 h1 => ?_
    cases w1 with
    | str a =>
      rw [r1.str_]
      refine ⟨rfl, ?_⟩
      refine G_bind A1 h1 fun R2 S2 H2 w2 y A2 e2 r2 h2 => ?_
      refine G_bind A2 h2 fun R3 S3 H3 w3 y3 A3 e3 r3 h3 => ?_
      obtain ⟨w, hw, h4⟩ := lift_wp h3
      obtain ⟨i, c, rfl, rfl, hp, rfl⟩ := padV_of hw
      refine ⟨mkT a, i, c, rfl, by rw [r2.int_, r3.str_], hp, ?_⟩
      rw [pad_mk]
      exact h4 R3 H3 _ A3 Ext.refl .mkStr
    | _ => exact False.elim h1
end
end Mi
end
section
/-! Mi, part Da: dicts of the store: made, read, changed, looked into. -/
namespace Mi
open PySem PySem.Spec PyProof.Rows L2
def keOf : Va → Option Ke
  | .int n => some (.i n)
  | .str l => some (.s l)
  | _ => none
theorem keOf_ok {K : PySem.W.Frag} {mg : Str → Option Value} {R : RC} {w : Va} {k : Ke} {v : V} (h : keOf w = some k) (r : RepV K mg R w v) : v = kV k.key := by
  cases w with
  | int n =>
    cases h
    exact r.int_
  | str l =>
    cases h
    exact r.str_
  | _ => cases h
theorem key_inj : ∀ {k k' : Ke}, k.key = k'.key → k = k'
  | .i n, .i n', h => by
    cases h
    rfl
  | .i n, .s l, h => by cases h
  | .s l, .i n, h => by cases h
  | .s l, .s l', h => by
    have h : (Sum.inr (⟨l.toArray⟩ : Str) : Key) = Sum.inr ⟨l'.toArray⟩ := h
    have h1 := Sum.inr.inj h
    have h2 : l.toArray = l'.toArray := congrArg (·.cps) h1
    have h3 : l = l' := by simpa using congrArg Array.toList h2
    rw [h3]
def valL : List (Ke × Va) → Ke → Option Va
  | [], _ => none
  | (k, w) :: r, k' => if k = k' then some w else valL r k'
def putL (l : List (Ke × Va)) (k : Ke) (w : Va) : List (Ke × Va) := if (l.any fun p => decide (p.1 = k)) = true then l.map (fun p => if p.1 = k then (p.1, w) else p) else l ++ [(k, w)]
def dicOf (S : Store) (w : Va) : Option (List (Ke × Va)) := match w with
  | .ref i => match S[i]? with
    | some (.dic l) => some l
    | _ => none
  | _ => none
/-- read: locked, too -/
def dicR (S : Store) (w : Va) : Option (List (Ke × Va)) := match w with
  | .ref i => match S[i]? with
    | some (.dic l) => some l
    | some (.dicF l) => some l
    | _ => none
  | _ => none
section
variable {K : PySem.W.Frag} {mg : Str → Option Value} {R : RC} {S : Store} {H : Hp}
theorem dicR_ok (hr : Rel K mg R S H) {w : Va} {v : V} {l : List (Ke × Va)} (h : RepV K mg R w v) (e : dicR S w = some l) : ∃ i p vs, w = .ref i ∧ v = .ref p ∧ R.ι[i]? = some p ∧ Rd H p (.dK vs) ∧ RepK K mg R l vs := by
  cases w with
  | ref i =>
    have e : (match S[i]? with | some (.dic l) => some l | some (.dicF l) => some l | _ => none) = some l := e
    cases q : S[i]? with
    | none => rw [q] at e; cases e
    | some so =>
      rw [q] at e
      cases so with
      | dic m =>
        cases e
        obtain ⟨p, rfl, hi⟩ := h.ref_
        obtain ⟨b, hb, g, vs, hH, rs⟩ := hr.objAt q
        rw [hi] at hb
        cases hb
        exact ⟨i, p, vs, rfl, rfl, hi, .inl hH, rs⟩
      | dicF m =>
        cases e
        obtain ⟨p, rfl, hi⟩ := h.ref_
        obtain ⟨b, hb, o, vs, g, hH, rs⟩ := hr.objAt q
        rw [hi] at hb
        cases hb
        exact ⟨i, p, vs, rfl, rfl, hi, .inr ⟨o, hH⟩, rs⟩
      | _ => cases e
  | _ => cases e
theorem DGet.r {H : Hp} {a : Addr} {kvs : List (Key × V)} {k : Key} (e : Rd H a (.dK kvs)) : DGet H a (kV k) (valV kvs k) := .inl ⟨kvs, k, e, rfl, rfl⟩
theorem dicOf_ok (hr : Rel K mg R S H) {w : Va} {v : V} {l : List (Ke × Va)} (h : RepV K mg R w v) (e : dicOf S w = some l) : ∃ i p vs, w = .ref i ∧ S[i]? = some (.dic l) ∧ v = .ref p ∧ R.ι[i]? = some p ∧ R.G p = none ∧ H p = some (.dK vs) ∧ RepK K mg R l vs := by
  cases w with
  | ref i =>
    have e : (match S[i]? with | some (.dic l) => some l | _ => none) = some l := e
    cases q : S[i]? with
    | none => rw [q] at e; cases e
    | some so =>
      rw [q] at e
      cases so with
      | dic m =>
        cases e
        obtain ⟨p, rfl, hi⟩ := h.ref_
        obtain ⟨b, hb, g, vs, hH, rs⟩ := hr.objAt q
        rw [hi] at hb
        cases hb
        exact ⟨i, p, vs, rfl, q, rfl, hi, g, hH, rs⟩
      | _ => cases e
  | _ => cases e
theorem RepK.get : ∀ {l : List (Ke × Va)} {vs : List (Key × V)} {k : Ke}, RepK K mg R l vs → (∀ w, valL l k = some w → ∃ v, valV vs k.key = some v ∧ RepV K mg R w v) ∧ (valL l k = none → valV vs k.key = none)
  | [], vs, k, h => by
    have h : vs = [] := h
    subst h
    exact ⟨fun w z => (by cases z), fun _ => rfl⟩
  | (k0, w0) :: l, vs, k, h => by
    obtain ⟨v, r, rfl, h1, h2⟩ := h
    have ih := RepK.get (k := k) h2
    by_cases c : k0 = k
    · subst c
      have e : valL ((k0, w0) :: l) k0 = some w0 := if_pos rfl
      rw [e, valV_pos rfl]
      exact ⟨fun w z => by cases z; exact ⟨v, rfl, h1⟩, fun z => by cases z⟩
    · have e : valL ((k0, w0) :: l) k = valL l k := if_neg c
      rw [e, valV_neg (p := (k0.key, v)) (fun z => c (key_inj z))]
      exact ih
theorem RepK.any : ∀ {l : List (Ke × Va)} {vs : List (Key × V)} {k : Ke}, RepK K mg R l vs → (vs.any fun p => decide (p.1 = k.key)) = (l.any fun p => decide (p.1 = k))
  | [], vs, k, h => by
    have h : vs = [] := h
    subst h
    rfl
  | (k0, w0) :: l, vs, k, h => by
    obtain ⟨v, r, rfl, h1, h2⟩ := h
    rw [List.any_cons, List.any_cons, RepK.any h2]
    congr 1
    rw [decide_eq_decide]
    exact ⟨fun z => key_inj z, fun z => by rw [show k0 = k from z]⟩
theorem RepK.map : ∀ {l : List (Ke × Va)} {vs : List (Key × V)} {k : Ke} {w : Va} {v : V}, RepK K mg R l vs → RepV K mg R w v → RepK K mg R (l.map fun p => if p.1 = k then (p.1, w) else p) (vs.map fun p => if p.1 = k.key then (p.1, v) else p)
  | [], vs, k, w, v, h, _ => by
    have h : vs = [] := h
    subst h
    rfl
  | (k0, w0) :: l, vs, k, w, v, h, rw0 => by
    obtain ⟨v0, r, rfl, h1, h2⟩ := h
    have ih := RepK.map (k := k) h2 rw0
    by_cases c : k0 = k
    · subst c
      rw [List.map_cons, List.map_cons, if_pos rfl, if_pos rfl]
      exact ⟨v, _, rfl, rw0, ih⟩
    · rw [List.map_cons, List.map_cons, if_neg c, if_neg (fun z => c (key_inj z))]
      exact ⟨v0, _, rfl, h1, ih⟩
theorem RepK.snoc : ∀ {l : List (Ke × Va)} {vs : List (Key × V)} {k : Ke} {w : Va} {v : V}, RepK K mg R l vs → RepV K mg R w v → RepK K mg R (l ++ [(k, w)]) (vs ++ [(k.key, v)])
  | [], vs, k, w, v, h, rw0 => by
    have h : vs = [] := h
    subst h
    exact ⟨v, [], rfl, rw0, rfl⟩
  | (k0, w0) :: l, vs, k, w, v, h, rw0 => by
    obtain ⟨v0, r, rfl, h1, h2⟩ := h
    exact ⟨v0, _, rfl, h1, RepK.snoc h2 rw0⟩
theorem RepK.put {l : List (Ke × Va)} {vs : List (Key × V)} {k : Ke} {w : Va} {v : V} (h : RepK K mg R l vs) (r : RepV K mg R w v) : RepK K mg R (putL l k w) (putK vs k.key v) := by
  unfold putL putK
  rw [h.any (k := k)]
  split
  · exact h.map r
  · exact h.snoc r
theorem RepK.length : ∀ {l : List (Ke × Va)} {vs : List (Key × V)}, RepK K mg R l vs → vs.length = l.length
  | [], vs, h => by
    have h : vs = [] := h
    rw [h]
    rfl
  | (k0, w0) :: l, vs, h => by
    obtain ⟨v0, r, rfl, h1, h2⟩ := h
    rw [List.length_cons, List.length_cons, RepK.length h2]
theorem Rel.madeD {K : PySem.W.Frag} {mg : Str → Option Value} {R : RC} {S : Store} {H : Hp} (r : Rel K mg R S H) {x : Addr} (hx : H x = none) :
    Rel K mg ⟨R.G, R.ι ++ [x]⟩ (S ++ [.dic []]) (upd H x (.dK [])) ∧ Ext R ⟨R.G, R.ι ++ [x]⟩ H (upd H x (.dK [])) := by
  have nx := r.inone hx
  have keep : ∀ b u, H b = some u → upd H x (.dK []) b = some u := fun b u e => by
    rw [upd_ne (ne_of_none e hx)]
    exact e
  have le : RLe R ⟨R.G, R.ι ++ [x]⟩ := ⟨fun _ _ e => e, List.prefix_append _ _⟩
  refine ⟨⟨fun b u e => keep b u (r.le b u e), by simp [r.len], ?_, fun b hb => ?_, fun j u b e1 e2 => ?_⟩, le, fun b u e _ => keep b u e, fun b u e => .inl e, fun b hb => ?_⟩
  · show (R.ι ++ [x]).Nodup
    rw [List.nodup_append]
    exact ⟨r.nd, by simp, fun a ha b hb z => by
      rw [List.mem_singleton.mp hb] at z
      exact nx (by rw [← z]; exact ha)⟩
  · have hb : b ∈ R.ι ++ [x] := hb
    rcases List.mem_append.mp hb with hb | hb
    · cases q : H b with
      | none => exact absurd q (r.tr b hb)
      | some u =>
        rw [keep b u q]
        exact fun z => nomatch z
    · rw [List.mem_singleton.mp hb, upd_same]
      exact fun z => nomatch z
  · have e2 : (R.ι ++ [x])[j]? = some b := e2
    by_cases hj : j < S.length
    · rw [List.getElem?_append_left hj] at e1
      rw [List.getElem?_append_left (by rw [r.len]; exact hj)] at e2
      have hb : b ∈ R.ι := List.mem_of_getElem? e2
      refine (r.cell j u b e1 e2).keep le ?_ fun z => z
      rw [upd_ne fun z => nx (by rw [← z]; exact hb)]
    · rw [List.getElem?_append_right (by omega)] at e1
      rw [List.getElem?_append_right (by rw [r.len]; omega), r.len] at e2
      cases hk : j - S.length with
      | zero =>
        rw [hk] at e1 e2
        cases e1
        cases e2
        exact ⟨r.gnone hx, [], upd_same, rfl⟩
      | succ k =>
        rw [hk] at e1
        cases e1
  · have hb : b ∈ R.ι ++ [x] := hb
    rcases List.mem_append.mp hb with hb | hb
    · exact .inl hb
    · rw [List.mem_singleton.mp hb]
      exact .inr hx
end
section
variable {X : Cx} {R0 : RC} {H0 : Hp} {W : WX} {a b e : Expr} {fa fb fe : Evn → Store → Res Va} {pos pos' : Pos}
/-- {} -/
def fDnew : Evn → Store → Res Va := fun _ S => .ok (.ref S.length) (S ++ [.dic []])
theorem e_dnew : OE X R0 H0 W (.Dict [] [] pos) fDnew := PEi pe_dnewK fun σ H Q h => by
  obtain ⟨R, S, env, A, h⟩ := h
  intro p hp
  obtain ⟨rel, ext⟩ := A.rel.madeD hp
  refine h _ _ _ (A.step ext rel) ext ?_
  unfold repV RepV
  exact ⟨p, rfl, by rw [← A.rel.len]; simp⟩
/-- d[k] -/
def vDGet (S : Store) (a b : Va) : Option Va := match dicR S a, keOf b with
  | some l, some k => valL l k
  | _, _ => none
theorem vDGet_of {S : Store} {a b w : Va} (h : vDGet S a b = some w) : ∃ l k, dicR S a = some l ∧ keOf b = some k ∧ valL l k = some w := by
  unfold vDGet at h
  split at h
  · rename_i l k e1 e2
    exact ⟨l, k, e1, e2, h⟩
  · cases h
theorem e_dget (hu : X.A.units + 1 < cLine) (ha : OE X R0 H0 W a fa) (hb : OE X R0 H0 W b fb) (hs : PlainIx b) : OE X R0 H0 W (.Subscript a b pos) (f2S vDGet fa fb) := PEi (pe_dget hu ha hb hs) fun σ H Q h => by
  obtain ⟨R, S, env, A, h⟩ := h
  refine G_bind A h fun R1 S1 H1 w1 x A1 e1 r1 h1 => ?_
  refine G_bind A1 h1 fun R2 S2 H2 w2 y A2 e2 r2 h2 => ?_
  obtain ⟨w, hw, h3⟩ := lift_wp h2
  obtain ⟨l, k, q1, q2, q3⟩ := vDGet_of hw
  obtain ⟨i, p, vs, rfl, rfl, hi, hH, rs⟩ := dicR_ok A2.rel (r1.mono e2.r) q1
  obtain ⟨v, hv, rv⟩ := (rs.get (k := k)).1 w q3
  refine ⟨p, v, rfl, ?_, h3 R2 H2 v A2 Ext.refl rv⟩
  rw [keOf_ok q2 r2, ← hv]
  exact DGet.r hH
/-- k in d, k not in d -/
def vDIn (neg : Bool) (S : Store) (a b : Va) : Option Va := match keOf a, dicR S b with
  | some k, some l => some (.bl (if neg then !(valL l k).isSome else (valL l k).isSome))
  | _, _ => none
theorem vDIn_of {neg : Bool} {S : Store} {a b w : Va} (h : vDIn neg S a b = some w) : ∃ l k, dicR S b = some l ∧ keOf a = some k ∧ w = .bl (if neg then !(valL l k).isSome else (valL l k).isSome) := by
  unfold vDIn at h
  split at h
  · rename_i k l e1 e2
    exact ⟨l, k, e2, e1, (Option.some.inj h).symm⟩
  · cases h
theorem din_read {σ : L2.St} {H : Hp} {neg : Bool} {T : V → Hp → Prop} (h : tG X.K X.mg R0 H0 W (repV X.K X.mg) (f2S (vDIn neg) fa fb) σ H T) :
    tG X.K X.mg R0 H0 W (repV X.K X.mg) fa σ H fun y H1 => tG X.K X.mg R0 H0 W (repV X.K X.mg) fb σ H1 fun x H2 => ∃ p o, x = .ref p ∧ DGet H2 p y o ∧ T (.bl (if neg then !o.isSome else o.isSome)) H2 := by
  obtain ⟨R, S, env, A, h⟩ := h
  refine G_bind A h fun R1 S1 H1 w1 y A1 e1 r1 h1 => ?_
  refine G_bind A1 h1 fun R2 S2 H2 w2 x A2 e2 r2 h2 => ?_
  obtain ⟨w, hw, h3⟩ := lift_wp h2
  obtain ⟨l, k, q1, q2, rfl⟩ := vDIn_of hw
  obtain ⟨i, p, vs, rfl, rfl, hi, hH, rs⟩ := dicR_ok A2.rel r2 q1
  refine ⟨p, valV vs k.key, rfl, ?_, ?_⟩
  · rw [keOf_ok q2 (r1.mono e2.r)]
    exact DGet.r hH
  · have e : (valV vs k.key).isSome = (valL l k).isSome := by
      cases q : valL l k with
      | none =>
        rw [(rs.get (k := k)).2 q]
        rfl
      | some w =>
        obtain ⟨v, hv, _⟩ := (rs.get (k := k)).1 w q
        rw [hv]
        rfl
    rw [e]
    exact h3 R2 H2 _ A2 Ext.refl .mkBl
theorem e_din (hu : X.A.units + 1 < cLine) (ha : OE X R0 H0 W a fa) (hb : OE X R0 H0 W b fb) (hm : behindInMarks .In b = false) : OE X R0 H0 W (.Compare a [.In] [b] pos) (f2S (vDIn false) fa fb) := PEi (pe_cmp (pc_din hu ha hb) hm) fun σ H Q h => din_read h
theorem e_dnotin (hu : X.A.units + 1 < cLine) (ha : OE X R0 H0 W a fa) (hb : OE X R0 H0 W b fb) (hm : behindInMarks .NotIn b = false) : OE X R0 H0 W (.Compare a [.NotIn] [b] pos) (f2S (vDIn true) fa fb) := PEi (pe_cmp (pc_dnotin hu ha hb) hm) fun σ H Q h => din_read h
theorem din_t {σ : L2.St} {H : Hp} {neg : Bool} {Q : Bool → Hp → Prop} (h : tG X.K X.mg R0 H0 W repB (fTru (f2S (vDIn neg) fa fb)) σ H Q) : tG X.K X.mg R0 H0 W (repV X.K X.mg) (f2S (vDIn neg) fa fb) σ H fun x H' => ∃ k, x = .bl k ∧ Q k H' := by
  obtain ⟨R, S, env, A, h⟩ := h
  refine ⟨R, S, env, A, ?_⟩
  unfold fTru at h
  rw [wp_bind] at h
  unfold f2S at h ⊢
  rw [wp_bind] at h ⊢
  refine wp_mono h (fun w1 S1 h => ?_) fun _ _ _ z => z
  rw [wp_bind] at h ⊢
  refine wp_mono h (fun w2 S2 h => ?_) fun _ _ _ z => z
  cases e : vDIn neg S2 w1 w2 with
  | none => rw [e] at h; exact h
  | some w =>
    rw [e] at h
    obtain ⟨l, k, _, _, rfl⟩ := vDIn_of e
    intro R' H' v A' e' r'
    have hv := relBl0 r'
    subst hv
    exact ⟨_, rfl, h R' H' _ A' e' rfl⟩
theorem t_din (n : Bool) {op : CmpOp} (hop : op = if n then .NotIn else .In) (hu : X.A.units + 1 < cLine) (ha : OE X R0 H0 W a fa) (hb : OE X R0 H0 W b fb) (hm : behindInMarks op b = false) : OT X R0 H0 W (.Compare a [op] [b] pos) (fTru (f2S (vDIn n) fa fb)) := by
  cases n with
  | true =>
    subst hop
    exact PTi (pt_cmp (pc_dnotin hu ha hb) hm) fun σ H Q h => din_read (din_t h)
  | false =>
    subst hop
    exact PTi (pt_cmp (pc_din hu ha hb) hm) fun σ H Q h => din_read (din_t h)
/-- d[k] = v -/
def putD (S : Store) (w u y : Va) : Option Store := match w, dicOf S w, keOf u with
  | .ref i, some l, some k => if l.length < sizeLine then some (S.set i (.dic (putL l k y))) else none
  | _, _, _ => none
theorem putD_of {S S' : Store} {w u y : Va} (h : putD S w u y = some S') : ∃ i l k, w = .ref i ∧ dicOf S w = some l ∧ keOf u = some k ∧ l.length < sizeLine ∧ S' = S.set i (.dic (putL l k y)) := by
  unfold putD at h
  split at h
  · rename_i i l k e1 e2
    by_cases c : l.length < sizeLine
    · rw [if_pos c] at h
      exact ⟨i, l, k, rfl, e2, e1, c, (Option.some.inj h).symm⟩
    · rw [if_neg c] at h
      cases h
  · cases h
def sPutD (fo fk fe : Evn → Store → Res Va) : Evn → Store → RS := fun env S => (fe env S).toS env fun y S1 => (fo env S1).toS env fun w S2 => (fk env S2).toS env fun u S3 => match putD S3 w u y with
  | some S4 => .nx env S4
  | none => .bad
theorem s_putD {oe ke : Expr} {fo fk : Evn → Store → Res Va} (hu : X.A.units + 1 < cLine) (ho : OE X R0 H0 W oe fo) (hk : OE X R0 H0 W ke fk) (he : OE X R0 H0 W e fe) (hs : swapsWith e (some (.Subscript oe ke pos')) pos.line X.env = pure false) :
    OS X R0 H0 W (.Assign [.Subscript oe ke pos'] e pos) (sPutD fo fk fe) := PSi (ps_dput hu ho hk he hs) fun D σ H h => by
  obtain ⟨R, S, env, A, h⟩ := h
  refine S_bind A h fun R1 S1 H1 y v A1 e1 r1 h1 => ?_
  refine S_bind A1 h1 fun R2 S2 H2 w x A2 e2 r2 h2 => ?_
  refine S_bind A2 h2 fun R3 S3 H3 u z A3 e3 r3 h3 => ?_
  cases q : putD S3 w u y with
  | none => rw [q] at h3; exact h3.elim
  | some S4 =>
    rw [q] at h3
    obtain ⟨i, l, k, rfl, q1, q2, q3, rfl⟩ := putD_of q
    obtain ⟨i', p, vs, e4, hS, rfl, hi, g, hH, rs⟩ := dicOf_ok A3.rel (r2.mono e3.r) q1
    cases e4
    refine ⟨p, _, rfl, by rw [keOf_ok q2 r3]; exact DPut.k hH (by rw [rs.length]; exact q3), ?_⟩
    obtain ⟨rel, ext⟩ := A3.rel.write (so := .dic (putL l k y)) (o := .dK (putK vs k.key v)) hi g ⟨g, _, upd_same, rs.put (r1.mono (e2.trans e3).r)⟩
    exact h3 R3 _ σ (A3.step ext rel) (RLe.refl R3)
end
/-! ### the order of data -/
def ordB (a b : Va) : Bool := cl 7 a && cl 7 b && PySem.W.alike (pd a) (pd b) && !decide (a = .non)
theorem ordB_ok {a b : Va} (h : ordB a b = true) : cl 7 a = true ∧ cl 7 b = true ∧ PySem.W.alike (pd a) (pd b) = true ∧ pd a ≠ .none := by
  unfold ordB at h
  simp only [Bool.and_eq_true, Bool.not_eq_true', decide_eq_false_iff_not] at h
  obtain ⟨⟨⟨h1, h2⟩, h3⟩, h4⟩ := h
  refine ⟨h1, h2, h3, fun e => ?_⟩
  cases a with
  | non => exact h4 rfl
  | scr l => cases h1
  | ref i => cases h1
  | fn x => cases h1
  | exc c n => cases h1
  | ty n => cases h1
  | _ => cases e
section
variable {X : Cx}
def vDLt (a b : Va) : Option Va := if ordB a b = true then some (.bl (PySem.W.dataLt (pd a) (pd b))) else none
theorem vDLt_bl {a b w : Va} (h : vDLt a b = some w) : ∃ k, w = .bl k := by
  unfold vDLt at h
  by_cases c : ordB a b = true
  · rw [if_pos c] at h
    exact ⟨_, (Option.some.inj h).symm⟩
  · rw [if_neg c] at h
    cases h
theorem o_DLt (hu : X.A.units + 64 < cLine) : ∃ r, OpR X (compareOp .Lt) r ∧ Prim2 X r vDLt := by
  refine ⟨fun x y H Q => ∃ d e : PyData, Dp X.K H x d ∧ Dp X.K H y e ∧ PySem.W.alike d e = true ∧ d ≠ .none ∧ d.depth ≤ 8 ∧ Q (.bl (PySem.W.dataLt d e)) H, ?_, ?_⟩
  · intro pins s σ H x y v u Q I rx ry h
    obtain ⟨d, e, hd, he, ha, hn, hdp, q⟩ := h
    obtain ⟨as, r1⟩ := Dp.reads I d x v hd rx
    obtain ⟨bs, r2⟩ := Dp.reads I e y u he ry
    exact PySem.W.lt_data r1 r2 ha hn (by omega) ⟨.bl _, H, I, rfl, q⟩
  · intro R S H w1 w2 x y w Q hr h1 h2 e k
    unfold vDLt at e
    by_cases c : ordB w1 w2 = true
    · rw [if_pos c] at e
      cases e
      obtain ⟨c1, c2, c3, c4⟩ := ordB_ok c
      exact ⟨pd w1, pd w2, dp_of hr w1 x 7 c1 h1, dp_of hr w2 y 7 c2 h2, c3, c4, Nat.le_trans (cl_shape w1 7 c1).2 (by decide), k R H _ hr Ext.refl .mkBl⟩
    · rw [if_neg c] at e
      cases e
def vDGt (a b : Va) : Option Va := if ordB a b = true then some (.bl (PySem.W.dataLt (pd b) (pd a))) else none
theorem vDGt_bl {a b w : Va} (h : vDGt a b = some w) : ∃ k, w = .bl k := by
  unfold vDGt at h
  by_cases c : ordB a b = true
  · rw [if_pos c] at h
    exact ⟨_, (Option.some.inj h).symm⟩
  · rw [if_neg c] at h
    cases h
theorem o_DGt (hu : X.A.units + 64 < cLine) : ∃ r, OpR X (compareOp .Gt) r ∧ Prim2 X r vDGt := by
  refine ⟨fun x y H Q => ∃ d e : PyData, Dp X.K H x d ∧ Dp X.K H y e ∧ PySem.W.alike d e = true ∧ d ≠ .none ∧ d.depth ≤ 8 ∧ Q (.bl (PySem.W.dataLt e d)) H, ?_, ?_⟩
  · intro pins s σ H x y v u Q I rx ry h
    obtain ⟨d, e, hd, he, ha, hn, hdp, q⟩ := h
    obtain ⟨as, r1⟩ := Dp.reads I d x v hd rx
    obtain ⟨bs, r2⟩ := Dp.reads I e y u he ry
    exact PySem.W.gt_data r1 r2 ha hn (by omega) ⟨.bl _, H, I, rfl, q⟩
  · intro R S H w1 w2 x y w Q hr h1 h2 e k
    unfold vDGt at e
    by_cases c : ordB w1 w2 = true
    · rw [if_pos c] at e
      cases e
      obtain ⟨c1, c2, c3, c4⟩ := ordB_ok c
      exact ⟨pd w1, pd w2, dp_of hr w1 x 7 c1 h1, dp_of hr w2 y 7 c2 h2, c3, c4, Nat.le_trans (cl_shape w1 7 c1).2 (by decide), k R H _ hr Ext.refl .mkBl⟩
    · rw [if_neg c] at e
      cases e
def vDLtE (a b : Va) : Option Va := if ordB a b = true then some (.bl (!PySem.W.dataLt (pd b) (pd a))) else none
theorem vDLtE_bl {a b w : Va} (h : vDLtE a b = some w) : ∃ k, w = .bl k := by
  unfold vDLtE at h
  by_cases c : ordB a b = true
  · rw [if_pos c] at h
    exact ⟨_, (Option.some.inj h).symm⟩
  · rw [if_neg c] at h
    cases h
theorem o_DLtE (hu : X.A.units + 64 < cLine) : ∃ r, OpR X (compareOp .LtE) r ∧ Prim2 X r vDLtE := by
  refine ⟨fun x y H Q => ∃ d e : PyData, Dp X.K H x d ∧ Dp X.K H y e ∧ PySem.W.alike d e = true ∧ d ≠ .none ∧ d.depth ≤ 8 ∧ Q (.bl (!PySem.W.dataLt e d)) H, ?_, ?_⟩
  · intro pins s σ H x y v u Q I rx ry h
    obtain ⟨d, e, hd, he, ha, hn, hdp, q⟩ := h
    obtain ⟨as, r1⟩ := Dp.reads I d x v hd rx
    obtain ⟨bs, r2⟩ := Dp.reads I e y u he ry
    exact PySem.W.le_data r1 r2 ha hn (by omega) ⟨.bl _, H, I, rfl, q⟩
  · intro R S H w1 w2 x y w Q hr h1 h2 e k
    unfold vDLtE at e
    by_cases c : ordB w1 w2 = true
    · rw [if_pos c] at e
      cases e
      obtain ⟨c1, c2, c3, c4⟩ := ordB_ok c
      exact ⟨pd w1, pd w2, dp_of hr w1 x 7 c1 h1, dp_of hr w2 y 7 c2 h2, c3, c4, Nat.le_trans (cl_shape w1 7 c1).2 (by decide), k R H _ hr Ext.refl .mkBl⟩
    · rw [if_neg c] at e
      cases e
def vDGtE (a b : Va) : Option Va := if ordB a b = true then some (.bl (!PySem.W.dataLt (pd a) (pd b))) else none
theorem vDGtE_bl {a b w : Va} (h : vDGtE a b = some w) : ∃ k, w = .bl k := by
  unfold vDGtE at h
  by_cases c : ordB a b = true
  · rw [if_pos c] at h
    exact ⟨_, (Option.some.inj h).symm⟩
  · rw [if_neg c] at h
    cases h
theorem o_DGtE (hu : X.A.units + 64 < cLine) : ∃ r, OpR X (compareOp .GtE) r ∧ Prim2 X r vDGtE := by
  refine ⟨fun x y H Q => ∃ d e : PyData, Dp X.K H x d ∧ Dp X.K H y e ∧ PySem.W.alike d e = true ∧ d ≠ .none ∧ d.depth ≤ 8 ∧ Q (.bl (!PySem.W.dataLt d e)) H, ?_, ?_⟩
  · intro pins s σ H x y v u Q I rx ry h
    obtain ⟨d, e, hd, he, ha, hn, hdp, q⟩ := h
    obtain ⟨as, r1⟩ := Dp.reads I d x v hd rx
    obtain ⟨bs, r2⟩ := Dp.reads I e y u he ry
    exact PySem.W.ge_data r1 r2 ha hn (by omega) ⟨.bl _, H, I, rfl, q⟩
  · intro R S H w1 w2 x y w Q hr h1 h2 e k
    unfold vDGtE at e
    by_cases c : ordB w1 w2 = true
    · rw [if_pos c] at e
      cases e
      obtain ⟨c1, c2, c3, c4⟩ := ordB_ok c
      exact ⟨pd w1, pd w2, dp_of hr w1 x 7 c1 h1, dp_of hr w2 y 7 c2 h2, c3, c4, Nat.le_trans (cl_shape w1 7 c1).2 (by decide), k R H _ hr Ext.refl .mkBl⟩
    · rw [if_neg c] at e
      cases e
theorem o_ltD (hu : X.A.units + 64 < cLine) : ∃ r, OpR X (compareOp .Lt) r ∧ Prim2 X r (fun a b => (iLt a b).or (vDLt a b)) := by
  obtain ⟨r1, a1, b1⟩ := o_lt (X := X)
  obtain ⟨r2, a2, b2⟩ := o_DLt hu
  exact ⟨_, a1.or a2, b1.or b2⟩
theorem o_leD (hu : X.A.units + 64 < cLine) : ∃ r, OpR X (compareOp .LtE) r ∧ Prim2 X r (fun a b => (iLe a b).or (vDLtE a b)) := by
  obtain ⟨r1, a1, b1⟩ := o_le (X := X)
  obtain ⟨r2, a2, b2⟩ := o_DLtE hu
  exact ⟨_, a1.or a2, b1.or b2⟩
theorem o_gtD (hu : X.A.units + 64 < cLine) : ∃ r, OpR X (compareOp .Gt) r ∧ Prim2 X r (fun a b => (iGt a b).or (vDGt a b)) := by
  obtain ⟨r1, a1, b1⟩ := o_gt (X := X)
  obtain ⟨r2, a2, b2⟩ := o_DGt hu
  exact ⟨_, a1.or a2, b1.or b2⟩
theorem o_geD (hu : X.A.units + 64 < cLine) : ∃ r, OpR X (compareOp .GtE) r ∧ Prim2 X r (fun a b => (iGe a b).or (vDGtE a b)) := by
  obtain ⟨r1, a1, b1⟩ := o_ge (X := X)
  obtain ⟨r2, a2, b2⟩ := o_DGtE hu
  exact ⟨_, a1.or a2, b1.or b2⟩
end
end Mi
end
section
/-! Mi, part Db: dicts locked while they are walked; the greatest of data. -/
namespace Mi
open PySem PySem.Spec PyProof.Rows L2
/-! ### a dict locked -/
section
variable {K : PySem.W.Frag} {mg : Str → Option Value} {R R' R0 : RC} {S : Store} {H H0 : Hp} {env : Evn} {σ : L2.St}
theorem Rel.lock (r : Rel K mg R S H) {j : Nat} {p : Addr} {l : List (Ke × Va)} {vs : List (Key × V)} (od : Obj) (hS : S[j]? = some (.dic l)) (hi : R.ι[j]? = some p) (g : R.G p = none) (hH : H p = some (.dK vs)) (rs : RepK K mg R l vs) :
    Rel K mg (R.add p (.frz od (.dK vs))) (S.set j (.dicF l)) (upd H p (.frz od (.dK vs))) ∧ Ext R (R.add p (.frz od (.dK vs))) H (upd H p (.frz od (.dK vs))) := by
  have mem : p ∈ R.ι := List.mem_of_getElem? hi
  have le : RLe R (R.add p (.frz od (.dK vs))) := RLe.add g
  have split : ∀ (a : Addr) (o : HO), (R.add p (.frz od (.dK vs))).G a = some o → (a = p ∧ o = .frz od (.dK vs)) ∨ (a ≠ p ∧ R.G a = some o) := fun a o e => by
    have e : upd R.G p (.frz od (.dK vs)) a = some o := e
    by_cases c : a = p
    · subst c
      rw [upd_same] at e
      exact .inl ⟨rfl, (Option.some.inj e).symm⟩
    · rw [upd_ne c] at e
      exact .inr ⟨c, e⟩
  refine ⟨⟨fun a o e => ?_, by rw [List.length_set]; exact r.len, r.nd, fun a ha => ?_, fun i so a e1 e2 => ?_⟩, le, fun a o e ha => ?_, fun a o e => ?_, fun a ha => .inl ha⟩
  · rcases split a o e with ⟨rfl, rfl⟩ | ⟨c, e⟩
    · exact upd_same
    · rw [upd_ne c]
      exact r.le a o e
  · by_cases c : a = p
    · subst c
      rw [upd_same]
      exact fun z => nomatch z
    · rw [upd_ne c]
      exact r.tr a ha
  · have e2 : R.ι[i]? = some a := e2
    by_cases c : j = i
    · subst c
      rw [hi] at e2
      cases e2
      obtain ⟨hj, _⟩ := List.getElem?_eq_some_iff.mp e1
      rw [List.length_set] at hj
      rw [List.getElem?_set_self hj] at e1
      cases e1
      exact ⟨od, vs, upd_same, upd_same, rs.mono le⟩
    · rw [List.getElem?_set_ne c] at e1
      have nb : a ≠ p := fun z => by
        subst z
        obtain ⟨h1, h2⟩ := List.getElem?_eq_some_iff.mp hi
        obtain ⟨h3, h4⟩ := List.getElem?_eq_some_iff.mp e2
        exact c ((List.getElem_inj r.nd).mp (h2.trans h4.symm))
      refine (r.cell i so a e1 e2).keep le (upd_ne nb) fun z => ?_
      show upd R.G p _ a = none
      rw [upd_ne nb]
      exact z
  · rw [upd_ne fun z => ha (by rw [z]; exact mem)]
    exact e
  · rcases split a o e with ⟨rfl, _⟩ | ⟨_, e⟩
    · exact .inr (.inr mem)
    · exact .inl e
/-- what is known without the lock at p -/
def RC.del (R : RC) (p : Addr) : RC := ⟨fun a => if a = p then none else R.G a, R.ι⟩
theorem del_ne {p a : Addr} (h : a ≠ p) : (R.del p).G a = R.G a := if_neg h
theorem del_same {p : Addr} : (R.del p).G p = none := if_pos rfl
theorem del_rd {p : Addr} {od : Obj} {vs : List (Key × V)} (hp : R.G p = some (.frz od (.dK vs))) {a : Addr} {u : HO} (hu : ∀ o us, u ≠ .frz o (.dK us) ∧ u ≠ .dK us) (h : Rd R.G a u) : Rd (R.del p).G a u := by
  have ne : a ≠ p := fun z => by
    subst z
    rcases h with h | ⟨o, h⟩
    · rw [hp] at h
      exact (hu od vs).1 (Option.some.inj h).symm
    · rw [hp] at h
      injection h with h
      injection h with h1 h2
      exact (hu od vs).2 h2.symm
  rcases h with h | ⟨o, h⟩
  · exact .inl (by rw [del_ne ne]; exact h)
  · exact .inr ⟨o, by rw [del_ne ne]; exact h⟩
mutual
theorem RepV.del {p : Addr} {od : Obj} {us : List (Key × V)} (hp : R.G p = some (.frz od (.dK us))) : ∀ {w : Va} {v : V}, RepV K mg R w v → RepV K mg (R.del p) w v
  | .non, _, h => h
  | .bl _, _, h => h
  | .int _, _, h => h
  | .str _, _, h => h
  | .tup ws, v, h => by
    unfold RepV at h ⊢
    obtain ⟨a, vs, e, t, r⟩ := h
    refine ⟨a, vs, e, ?_, RepVs.del hp r⟩
    rcases t with t | t
    · exact .inl (del_rd hp (fun _ _ => ⟨fun z => (nomatch z), fun z => (nomatch z)⟩) t)
    · exact .inr t
  | .lst ws, v, h => by
    unfold RepV at h ⊢
    obtain ⟨a, vs, e, t, r⟩ := h
    refine ⟨a, vs, e, ?_, RepVs.del hp r⟩
    rw [del_ne fun z => by rw [z, hp] at t; cases t]
    exact t
  | .scr ns, v, h => by
    unfold RepV at h ⊢
    obtain ⟨a, e, t⟩ := h
    refine ⟨a, e, ?_⟩
    rcases t with t | t
    · exact .inl (del_rd hp (fun _ _ => ⟨fun z => (nomatch z), fun z => (nomatch z)⟩) t)
    · exact .inr t
  | .ref i, v, h => by
    unfold RepV at h ⊢
    exact h
  | .fn x, v, h => h
  | .exc c n, v, h => by
    unfold RepV at h ⊢
    obtain ⟨a, C, d, e1, e2, e3, e4⟩ := h
    refine ⟨a, C, d, e1, e2, ?_, ?_⟩
    · rw [del_ne fun z => by rw [z, hp] at e3; cases e3]
      exact e3
    · cases n with
      | none => exact e4
      | some k =>
        obtain ⟨dd, e5, e6⟩ := e4
        refine ⟨dd, e5, ?_⟩
        rw [del_ne fun z => by rw [z, hp] at e6; cases e6]
        exact e6
  | .ty _, v, h => h
theorem RepVs.del {p : Addr} {od : Obj} {us : List (Key × V)} (hp : R.G p = some (.frz od (.dK us))) : ∀ {ws : List Va} {vs : List V}, RepVs K mg R ws vs → RepVs K mg (R.del p) ws vs
  | [], _, h => h
  | w :: ws, vs, h => by
    unfold RepVs at h ⊢
    obtain ⟨v, r, e, h1, h2⟩ := h
    exact ⟨v, r, e, RepV.del hp h1, RepVs.del hp h2⟩
end
theorem RepF.del {p : Addr} {od : Obj} {us : List (Key × V)} (hp : R.G p = some (.frz od (.dK us))) : ∀ {ws : List (String × Va)} {vs : List (Str × V)}, RepF K mg R ws vs → RepF K mg (R.del p) ws vs
  | [], _, h => h
  | (f, w) :: ws, vs, h => by
    obtain ⟨v, r, e, h1, h2⟩ := h
    exact ⟨v, r, e, h1.del hp, RepF.del hp h2⟩
theorem RepK.del {p : Addr} {od : Obj} {us : List (Key × V)} (hp : R.G p = some (.frz od (.dK us))) : ∀ {ws : List (Ke × Va)} {vs : List (Key × V)}, RepK K mg R ws vs → RepK K mg (R.del p) ws vs
  | [], _, h => h
  | (f, w) :: ws, vs, h => by
    obtain ⟨v, r, e, h1, h2⟩ := h
    exact ⟨v, r, e, h1.del hp, RepK.del hp h2⟩
theorem RepO.del {p a : Addr} {od : Obj} {us : List (Key × V)} (hp : R.G p = some (.frz od (.dK us))) (ne : a ≠ p) {H' : Hp} (hH : H' a = H a) {so : SO} (h : RepO K mg R H a so) : RepO K mg (R.del p) H' a so := by
  cases so with
  | dead => trivial
  | ins c fs =>
    obtain ⟨h0, C, dx, vs, h1, hc, hn, h2, h3⟩ := h
    exact ⟨by rw [del_ne ne]; exact h0, C, dx, vs, h1, hc, hn, by rw [hH]; exact h2, h3.del hp⟩
  | lst ws =>
    obtain ⟨h0, vs, h2, h3⟩ := h
    exact ⟨by rw [del_ne ne]; exact h0, vs, by rw [hH]; exact h2, h3.del hp⟩
  | dic ws =>
    obtain ⟨h0, vs, h2, h3⟩ := h
    exact ⟨by rw [del_ne ne]; exact h0, vs, by rw [hH]; exact h2, h3.del hp⟩
  | dicF ws =>
    obtain ⟨o, vs, h1, h2, h3⟩ := h
    exact ⟨o, vs, by rw [del_ne ne]; exact h1, by rw [hH]; exact h2, h3.del hp⟩
theorem Rel.unlock (r : Rel K mg R S H) {j : Nat} {p : Addr} {l : List (Ke × Va)} {od : Obj} {vs : List (Key × V)} (hS : S[j]? = some (.dicF l)) (hi : R.ι[j]? = some p) (hp : R.G p = some (.frz od (.dK vs))) : Rel K mg (R.del p) (S.set j (.dic l)) (upd H p (.dK vs)) := by
  have mem : p ∈ R.ι := List.mem_of_getElem? hi
  refine ⟨fun a o e => ?_, by rw [List.length_set]; exact r.len, r.nd, fun a ha => ?_, fun i so a e1 e2 => ?_⟩
  · by_cases c : a = p
    · subst c
      rw [del_same] at e
      cases e
    · rw [del_ne c] at e
      rw [upd_ne c]
      exact r.le a o e
  · by_cases c : a = p
    · subst c
      rw [upd_same]
      exact fun z => nomatch z
    · rw [upd_ne c]
      exact r.tr a ha
  · have e2 : R.ι[i]? = some a := e2
    by_cases c : j = i
    · subst c
      rw [hi] at e2
      cases e2
      obtain ⟨hj, _⟩ := List.getElem?_eq_some_iff.mp e1
      rw [List.length_set] at hj
      rw [List.getElem?_set_self hj] at e1
      cases e1
      obtain ⟨o', vs', g1, g2, g3⟩ := r.cell j _ _ hS hi
      rw [hp] at g1
      injection g1 with g1
      injection g1 with g1 g1'
      injection g1' with g1'
      subst g1'
      exact ⟨del_same, vs, upd_same, g3.del hp⟩
    · rw [List.getElem?_set_ne c] at e1
      have nb : a ≠ p := fun z => by
        subst z
        obtain ⟨h1, h2⟩ := List.getElem?_eq_some_iff.mp hi
        obtain ⟨h3, h4⟩ := List.getElem?_eq_some_iff.mp e2
        exact c ((List.getElem_inj r.nd).mp (h2.trans h4.symm))
      exact (r.cell i so a e1 e2).del hp nb (upd_ne nb)
theorem Ext.unlock {p : Addr} {od : Obj} {vs : List (Key × V)} (e : Ext R0 R H0 H) (h0 : R0.G p = none) (hi : p ∈ R0.ι ∨ H0 p = none) : Ext R0 (R.del p) H0 (upd H p (.dK vs)) := by
  refine ⟨⟨fun a o h => ?_, e.r.ip⟩, fun a o h ha => ?_, fun a o h => ?_, e.inw⟩
  · rw [del_ne fun z => by rw [z, h0] at h; cases h]
    exact e.r.le a o h
  · rw [upd_ne fun z => ?_]
    · exact e.fr a o h ha
    · subst z
      rcases hi with hi | hi
      · exact ha hi
      · rw [h] at hi; cases hi
  · by_cases c : a = p
    · subst c
      rw [del_same] at h
      cases h
    · rw [del_ne c] at h
      exact e.gn a o h
theorem At.unlock (A : At K mg R0 H0 R S H env σ) {j : Nat} {p : Addr} {l : List (Ke × Va)} {od : Obj} {vs : List (Key × V)} (hS : S[j]? = some (.dicF l)) (hi : R.ι[j]? = some p) (hp : R.G p = some (.frz od (.dK vs))) (h0 : R0.G p = none) (hi0 : p ∈ R0.ι ∨ H0 p = none) :
    At K mg R0 H0 (R.del p) (S.set j (.dic l)) (upd H p (.dK vs)) env σ := by
  refine ⟨A.ext.unlock (od := od) h0 hi0, A.rel.unlock hS hi hp, A.len, fun i w h => ?_, fun i l h => ?_, A.dis⟩
  · obtain ⟨v, h1, h2⟩ := A.val i w h
    exact ⟨v, h1, h2.del hp⟩
  · obtain ⟨q, us, h1, h2, h3, h4, h5, h6⟩ := A.own i l h
    have nq : q ≠ p := fun z => by rw [z, hp] at h4; cases h4
    exact ⟨q, us, h1, by rw [upd_ne nq]; exact h2, h3.del hp, by rw [del_ne nq]; exact h4, h5, h6⟩
end
/-! ### an expression, a statement with a dict locked -/
/-- which dict: what the first reading says -/
def peek (fp : Evn → Store → Res Va) (env : Evn) (S : Store) : Option (Nat × List (Ke × Va)) := match fp env S with
  | .ok (.ref j) _ => (match S[j]? with
    | some (.dic l) => some (j, l)
    | _ => none)
  | _ => none
theorem peek_of {fp : Evn → Store → Res Va} {env : Evn} {S : Store} {j : Nat} {l : List (Ke × Va)} (h : peek fp env S = some (j, l)) : S[j]? = some (.dic l) := by
  unfold peek at h
  split at h
  · rename_i j' S'
    split at h
    · rename_i l' q
      cases h
      exact q
    · cases h
  · cases h
def opn (j : Nat) (S : Store) : Option Store := match S[j]? with
  | some (.dicF l) => some (S.set j (.dic l))
  | _ => none
theorem opn_of {j : Nat} {S S' : Store} (h : opn j S = some S') : ∃ l, S[j]? = some (.dicF l) ∧ S' = S.set j (.dic l) := by
  unfold opn at h
  split at h
  · rename_i l q
    exact ⟨l, q, (Option.some.inj h).symm⟩
  · cases h
def Res.open_ {α : Type} (j : Nat) (r : Res α) : Res α := match r with
  | .ok a S => (match opn j S with
    | some S' => .ok a S'
    | none => .bad)
  | _ => .bad
def RS.open_ (j : Nat) (r : RS) : RS := match r with
  | .nx env S => (match opn j S with
    | some S' => .nx env S'
    | none => .bad)
  | .rt w S => (match opn j S with
    | some S' => .rt w S'
    | none => .bad)
  | _ => .bad
def fLk (fp fe : Evn → Store → Res Va) : Evn → Store → Res Va := fun env S => match peek fp env S with
  | some (j, l) => (fe env (S.set j (.dicF l))).open_ j
  | none => .bad
def sLk (fp : Evn → Store → Res Va) (f : Evn → Store → RS) : Evn → Store → RS := fun env S => match peek fp env S with
  | some (j, l) => (f env (S.set j (.dicF l))).open_ j
  | none => .bad
theorem open_wp {α : Type} {j : Nat} {r : Res α} {Q : α → Store → Prop} {E : String → Option Int → Store → Prop} (h : (r.open_ j).wp Q E) : r.wp (fun a S => ∃ S', opn j S = some S' ∧ Q a S') fun _ _ _ => False := by
  cases r with
  | ok a S =>
    have h : (match opn j S with | some S' => Res.ok a S' | none => .bad : Res α).wp Q E := h
    cases q : opn j S with
    | none => rw [q] at h; exact h.elim
    | some S' => rw [q] at h; exact ⟨S', q, h⟩
  | ex c a S => exact h
  | bad => exact h
theorem openS_wp {j : Nat} {r : RS} {N : Evn → Store → Prop} {T : Va → Store → Prop} {E : String → Option Int → Evn → Store → Prop} (h : (r.open_ j).wp N T E) : r.wp (fun a S => ∃ S', opn j S = some S' ∧ N a S') (fun a S => ∃ S', opn j S = some S' ∧ T a S') fun _ _ _ _ => False := by
  cases r with
  | nx a S =>
    have h : (match opn j S with | some S' => RS.nx a S' | none => .bad : RS).wp N T E := h
    cases q : opn j S with
    | none => rw [q] at h; exact h.elim
    | some S' => rw [q] at h; exact ⟨S', q, h⟩
  | rt a S =>
    have h : (match opn j S with | some S' => RS.rt a S' | none => .bad : RS).wp N T E := h
    cases q : opn j S with
    | none => rw [q] at h; exact h.elim
    | some S' => rw [q] at h; exact ⟨S', q, h⟩
  | ex c a e S => exact h
  | bad => exact h
section
variable {X : Cx} {R0 : RC} {H0 : Hp} {W : WX} {a b e : Expr} {fp fe : Evn → Store → Res Va} {f : Evn → Store → RS} {st : Stmt}
theorem At.outer {K : PySem.W.Frag} {mg : Str → Option Value} {R : RC} {S : Store} {H : Hp} {env : Evn} {σ : L2.St} (A : At K mg R0 H0 R S H env σ) {p : Addr} (g : R.G p = none) (hi : p ∈ R.ι) : R0.G p = none ∧ (p ∈ R0.ι ∨ H0 p = none) := by
  refine ⟨?_, A.ext.inw p hi⟩
  cases q : R0.G p with
  | none => rfl
  | some o =>
    rw [A.ext.r.le p o q] at g
    cases g
theorem e_lk (he : OE X R0 H0 W e fe) : OE X R0 H0 W e (fLk fp fe) := PEi (pe_lock he) fun σ H Q h => by
  obtain ⟨R, S, env, A, h⟩ := h
  unfold fLk at h
  cases hq : peek fp env S with
  | none => rw [hq] at h; exact h.elim
  | some jl =>
    obtain ⟨j, l⟩ := jl
    rw [hq] at h
    have hS := peek_of hq
    obtain ⟨p, hi, g, vs, hH, rs⟩ := A.rel.objAt hS
    have mem : p ∈ R.ι := List.mem_of_getElem? hi
    obtain ⟨h0, hi0⟩ := A.outer g mem
    refine ⟨p, .dK vs, hH, trivial, fun od => ?_⟩
    obtain ⟨rel, ext⟩ := A.rel.lock od hS hi g hH rs
    have h := open_wp (j := j) h
    refine ⟨_, _, env, A.step ext rel, wp_mono h (fun w S1 h1 R1 H1 v A1 e1 r1 => ?_) fun _ _ _ z => z.elim⟩
    obtain ⟨S2, hop, h2⟩ := h1
    obtain ⟨l', hS', rfl⟩ := opn_of hop
    have hp1 : R1.G p = some (.frz od (.dK vs)) := e1.r.le p _ upd_same
    have hi1 : R1.ι[j]? = some p := prefix_get e1.r.ip hi
    refine ⟨A1.rel.le p _ hp1, ?_⟩
    exact h2 (R1.del p) _ v (A1.unlock hS' hi1 hp1 h0 hi0) ((ext.trans e1).unlock (od := od) g (.inl mem)) (r1.del hp1)
theorem s_lk (hs : OS X R0 H0 W st f) : OS X R0 H0 W st (sLk fp f) := PSi (ps_lock hs) fun D σ H h => by
  obtain ⟨R, S, env, A, h⟩ := h
  unfold sLk at h
  cases hq : peek fp env S with
  | none => rw [hq] at h; exact h.elim
  | some jl =>
    obtain ⟨j, l⟩ := jl
    rw [hq] at h
    have hS := peek_of hq
    obtain ⟨p, hi, g, vs, hH, rs⟩ := A.rel.objAt hS
    have mem : p ∈ R.ι := List.mem_of_getElem? hi
    obtain ⟨h0, hi0⟩ := A.outer g mem
    refine ⟨p, .dK vs, hH, trivial, fun od => ?_⟩
    obtain ⟨rel, ext⟩ := A.rel.lock od hS hi g hH rs
    have h := openS_wp (j := j) h
    have A0 := A.step ext rel
    refine ⟨_, _, env, A0, wps_mono h (fun env' S1 h1 R1 H1 σ1 A1 l1 => ?_) (fun w S1 h1 R1 H1 v x1 l1 r1 v1 => ?_) fun _ _ _ _ z => z.elim⟩
    · obtain ⟨S2, hop, h2⟩ := h1
      obtain ⟨l', hS', rfl⟩ := opn_of hop
      have hp1 : R1.G p = some (.frz od (.dK vs)) := l1.le p _ upd_same
      have hi1 : R1.ι[j]? = some p := prefix_get l1.ip hi
      refine ⟨A1.rel.le p _ hp1, ?_⟩
      refine h2 (R1.del p) _ σ1 (A1.unlock hS' hi1 hp1 h0 hi0) ⟨fun a o q => ?_, (ext.r.trans l1).ip⟩
      rw [del_ne fun z => by rw [z, g] at q; cases q]
      exact (ext.r.trans l1).le a o q
    · obtain ⟨S2, hop, h2⟩ := h1
      obtain ⟨l', hS', rfl⟩ := opn_of hop
      have hp1 : R1.G p = some (.frz od (.dK vs)) := l1.le p _ upd_same
      have hi1 : R1.ι[j]? = some p := prefix_get l1.ip hi
      refine ⟨r1.le p _ hp1, ?_⟩
      refine h2 (R1.del p) _ v (x1.unlock (od := od) h0 hi0) ⟨fun a o q => ?_, (ext.r.trans l1).ip⟩ (r1.unlock hS' hi1 hp1) (v1.del hp1)
      rw [del_ne fun z => by rw [z, g] at q; cases q]
      exact (ext.r.trans l1).le a o q
/-! ### the keys, the values of a dict -/
def keV : Ke → Va
  | .i n => .int n
  | .s l => .str l
def dicK (S : Store) (w : Va) : Option (List (Ke × Va)) := match w with
  | .ref i => match S[i]? with
    | some (.dicF l) => some l
    | _ => none
  | _ => none
def fKeys (fe : Evn → Store → Res Va) : Evn → Store → Res (List Va) := fun env S => (fe env S).bind fun w S1 => lift ((dicK S1 w).map fun l => l.map fun p => keV p.1) S1
def fVals (fe : Evn → Store → Res Va) : Evn → Store → Res (List Va) := fun env S => (fe env S).bind fun w S1 => lift ((dicK S1 w).map fun l => l.map fun p => p.2) S1
theorem keV_ok {K : PySem.W.Frag} {mg : Str → Option Value} {R : RC} (k : Ke) : RepV K mg R (keV k) (kV k.key) := by
  cases k with
  | i n => exact .mkInt
  | s l => exact .mkStr
theorem RepK.nth {K : PySem.W.Frag} {mg : Str → Option Value} {R : RC} : ∀ {l : List (Ke × Va)} {vs : List (Key × V)} {i : Nat} {k : Ke} {w : Va}, RepK K mg R l vs → l[i]? = some (k, w) → ∃ v, vs[i]? = some (k.key, v) ∧ RepV K mg R w v
  | [], _, _, _, _, _, e => by simp at e
  | (k0, w0) :: l, vs, i, k, w, h, e => by
    obtain ⟨v, r, rfl, h1, h2⟩ := h
    cases i with
    | zero =>
      cases (Option.some.inj e)
      exact ⟨v, rfl, h1⟩
    | succ j => exact RepK.nth (i := j) h2 e
theorem dicK_ok {K : PySem.W.Frag} {mg : Str → Option Value} {R : RC} {S : Store} {H : Hp} (hr : Rel K mg R S H) {w : Va} {v : V} {l : List (Ke × Va)} (h : RepV K mg R w v) (e : dicK S w = some l) : ∃ p o vs, v = .ref p ∧ R.G p = some (.frz o (.dK vs)) ∧ RepK K mg R l vs := by
  cases w with
  | ref i =>
    have e : (match S[i]? with | some (.dicF l) => some l | _ => none) = some l := e
    cases q : S[i]? with
    | none => rw [q] at e; cases e
    | some so =>
      rw [q] at e
      cases so with
      | dicF m =>
        cases e
        obtain ⟨p, rfl, hi⟩ := h.ref_
        obtain ⟨b, hb, o, vs, g, hH, rs⟩ := hr.objAt q
        rw [hi] at hb
        cases hb
        exact ⟨p, o, vs, rfl, g, rs⟩
      | _ => cases e
  | _ => cases e
theorem it_keys : IterOk X R0 H0 W (iKeys (tG X.K X.mg R0 H0 W (repV X.K X.mg) fe)) (fKeys fe) := by
  refine ⟨fun R S H env σ T A h => ?_⟩
  unfold fKeys at h
  rw [wp_bind] at h
  refine ⟨R, S, env, A, wp_mono h (fun w S1 h1 R1 H1 v A1 e1 r1 => ?_) fun _ _ _ z => z⟩
  obtain ⟨ws, hws, h2⟩ := lift_wp h1
  cases q : dicK S1 w with
  | none => rw [q] at hws; cases hws
  | some l =>
    rw [q] at hws
    cases hws
    obtain ⟨p, o, vs, rfl, g, rs⟩ := dicK_ok A1.rel r1 q
    refine ⟨p, o, rfl, .inl ⟨vs, A1.rel.le _ _ g, h2 _ R1 H1 A1 e1 fun R2 S2 H2 i l2 A2 => ?_⟩⟩
    have hp : H2 p = some (.frz o (.dK vs)) := A2.le _ _ (l2.le _ _ g)
    refine ⟨fun hi => ⟨hp, by rw [rs.length]; rw [List.length_map] at hi; exact hi⟩, fun w hw => ?_⟩
    rw [List.getElem?_map] at hw
    cases q2 : l[i]? with
    | none => rw [q2] at hw; cases hw
    | some kw =>
      obtain ⟨k, u⟩ := kw
      rw [q2] at hw
      cases hw
      obtain ⟨v, hv, rv⟩ := rs.nth q2
      refine ⟨⟨hp, (List.getElem?_eq_some_iff.mp hv).1⟩, fun x H3 hx => ?_⟩
      obtain ⟨rfl, k', v', e1, rfl⟩ := hx
      rw [hv] at e1
      cases e1
      exact ⟨R2, A2, Ext.refl, keV_ok k⟩
theorem it_vals : IterOk X R0 H0 W (iVals (tG X.K X.mg R0 H0 W (repV X.K X.mg) fe)) (fVals fe) := by
  refine ⟨fun R S H env σ T A h => ?_⟩
  unfold fVals at h
  rw [wp_bind] at h
  refine ⟨R, S, env, A, wp_mono h (fun w S1 h1 R1 H1 v A1 e1 r1 => ?_) fun _ _ _ z => z⟩
  obtain ⟨ws, hws, h2⟩ := lift_wp h1
  cases q : dicK S1 w with
  | none => rw [q] at hws; cases hws
  | some l =>
    rw [q] at hws
    cases hws
    obtain ⟨p, o, vs, rfl, g, rs⟩ := dicK_ok A1.rel r1 q
    refine ⟨p, o, vs, rfl, A1.rel.le _ _ g, h2 _ R1 H1 A1 e1 fun R2 S2 H2 i l2 A2 => ?_⟩
    have hp : H2 p = some (.frz o (.dK vs)) := A2.le _ _ (l2.le _ _ g)
    refine ⟨fun hi => ⟨hp, by rw [rs.length]; rw [List.length_map] at hi; exact hi⟩, fun w hw => ?_⟩
    rw [List.getElem?_map] at hw
    cases q2 : l[i]? with
    | none => rw [q2] at hw; cases hw
    | some kw =>
      obtain ⟨k, u⟩ := kw
      rw [q2] at hw
      cases hw
      obtain ⟨v, hv, rv⟩ := rs.nth q2
      refine ⟨⟨hp, (List.getElem?_eq_some_iff.mp hv).1⟩, fun x H3 hx => ?_⟩
      obtain ⟨rfl, k', e1⟩ := hx
      rw [hv] at e1
      cases e1
      exact ⟨R2, A2, Ext.refl, rv.mono l2⟩
/-! ### the greatest of data -/
def argV (x : Va) (xs : List Va) : Va := xs.foldl (fun a y => if PySem.W.dataLt (pd a) (pd y) = true then y else a) x
theorem all_reads {pins : List (Addr × Obj)} {σ : L2.St} {H : Hp} {s : Shared} (I : Inv X pins σ H s) : ∀ {bs : List (V × PyData)} {us : List Value}, Vals (bs.map (·.1)) us → (∀ b ∈ bs, Dp X.K H b.1 b.2) → ∃ as, ReadsAll s.heap us (bs.map (·.2)) as
  | [], us, h, _ => by
    cases h
    exact ⟨_, .nil⟩
  | b :: bs, us, h, hd => by
    cases h with
    | cons r t =>
      obtain ⟨as, h1⟩ := Dp.reads I b.2 b.1 _ (hd b List.mem_cons_self) r
      obtain ⟨as2, h2⟩ := all_reads I t fun c hc => hd c (List.mem_cons_of_mem _ hc)
      exact ⟨_, .cons h1 h2⟩
theorem depthAll_le : ∀ {ds : List PyData} {n : Nat}, (∀ d ∈ ds, d.depth ≤ n) → PyData.depthAll ds ≤ n
  | [], n, _ => Nat.zero_le n
  | d :: ds, n, h => Nat.max_le.mpr ⟨h d List.mem_cons_self, depthAll_le fun c hc => h c (List.mem_cons_of_mem _ hc)⟩
def rMaxD (K : PySem.W.Frag) : List V → Hp → VK → Prop := fun vs H Q => ∃ (a : Addr) (bs : List (V × PyData)), vs = [V.ref a] ∧ SqL K H a (bs.map (·.1)) ∧ bs ≠ [] ∧ (∀ b ∈ bs, Dp K H b.1 b.2 ∧ b.2.depth ≤ 8) ∧ PySem.W.AlikeAll (bs.map (·.2)) ∧
  ∀ x, (bs.map (·.1))[argBest (fun i j => PySem.W.dataLt ((bs.map (·.2)).getD j .none) ((bs.map (·.2)).getD i .none)) (bs.length - 1)]? = some x → Q x H
theorem cr_maxD (hc : X.calm = true) (hu : X.A.units + 70 < cLine) : CallR X (.builtin "max") (rMaxD X.K) := by
  intro pins s σ H vs us Q I r h
  obtain ⟨a, bs, rfl, hs, hne, hd, hal, q⟩ := h
  obtain ⟨its, rv, hl, hz⟩ := I.list hs
  obtain rfl := Vals.ref1 r
  obtain ⟨as, hr⟩ := all_reads I rv fun b hb => (hd b hb).1
  have hlen : its.toArray.size = bs.length := by
    rw [List.size_toArray, ← rv.length, List.length_map]
  have hpos : 0 < bs.length := List.length_pos_iff.mpr hne
  have hdp : PyData.depthAll (bs.map (·.2)) ≤ 8 := depthAll_le fun d hd' => by
    obtain ⟨b, hb, rfl⟩ := List.mem_map.mp hd'
    exact (hd b hb).2
  refine call_max_walkH (PySem.W.iter_listW (A := X.A.in1) (I.ok.hd hc) hl.isList fun s₂ e W st hfp hw hk => ?_)
  refine ⟨_, _, _, _, _, _, _, s.heap, _, rfl, W, st, hfp, by omega, hw, hk, PySem.W.cmpIn_gt (A := X.A.in1) hr hal (by show X.A.units + 1 + _ < _; omega), fun v s' hP m => ?_⟩
  obtain ⟨h', tk, rfl, hk'⟩ := PySem.W.moved_old e rfl m
  rw [hlen, List.getElem?_toArray] at hP
  have hb : ∃ x, (bs.map (·.1))[argBest (fun i j => PySem.W.dataLt ((bs.map (·.2)).getD j .none) ((bs.map (·.2)).getD i .none)) (bs.length - 1)]? = some x := by
    cases e : (bs.map (·.1))[argBest (fun i j => PySem.W.dataLt ((bs.map (·.2)).getD j .none) ((bs.map (·.2)).getD i .none)) (bs.length - 1)]? with
    | some x => exact ⟨x, rfl⟩
    | none =>
      have z := rv.none_of e
      rw [z] at hP
      cases hP
  obtain ⟨x, hx⟩ := hb
  obtain ⟨u, hu', rx⟩ := rv.get hx
  have e : u = v := Option.some.inj (hu'.symm.trans hP)
  subst e
  exact ⟨x, H, I.kept hk', rx, q x hx⟩
def vMaxD (w : Va) : Option Va := match w with
  | .lst (x :: xs) => if (x :: xs).all (cl 7) = true ∧ alikeB (x :: xs) = true ∧ (x :: xs).all (fun a => !decide (a = .non)) = true then some (argV x xs) else none
  | _ => none
theorem pd_none {a : Va} (c : cl 7 a = true) (h : a ≠ .non) : pd a ≠ .none := by
  intro e
  cases a with
  | non => exact h rfl
  | scr l => cases c
  | ref i => cases c
  | fn x => cases c
  | exc c' n => cases c
  | ty n => cases c
  | _ => cases e
theorem pds_eq : ∀ l : List Va, pds l = l.map pd
  | [] => rfl
  | w :: ws => by
    show pd w :: pds ws = pd w :: ws.map pd
    rw [pds_eq ws]
theorem c_maxD (hc : X.calm = true) (hu : X.A.units + 70 < cLine) : ∃ r, CallR X (.builtin "max") r ∧ PrimA X r (one vMaxD) := ⟨_, cr_maxD hc hu, fun R S H ws vs w Q hr h e k => by
  obtain ⟨a, rfl, e0⟩ := one_of e
  obtain ⟨v, rfl, h0⟩ := rv1 h
  cases a with
  | lst l =>
    cases l with
    | nil => cases e0
    | cons x xs =>
      have e0 : (if (x :: xs).all (cl 7) = true ∧ alikeB (x :: xs) = true ∧ (x :: xs).all (fun a => !decide (a = .non)) = true then some (argV x xs) else none) = some w := e0
      by_cases c : (x :: xs).all (cl 7) = true ∧ alikeB (x :: xs) = true ∧ (x :: xs).all (fun a => !decide (a = .non)) = true
      · rw [if_pos c] at e0
        cases e0
        obtain ⟨c1, c2, c3⟩ := c
        obtain ⟨t, us, rfl, ht, rs⟩ := h0.lst_
        have lz : (paired (x :: xs) us).length = xs.length + 1 := by
          have := congrArg List.length (paired_snd rs)
          simpa using this
        refine ⟨t, paired (x :: xs) us, rfl, ?_, ?_, fun b hb => ?_, ⟨?_, ?_⟩, fun y hy => ?_⟩
        · rw [paired_fst rs]
          exact SqL.of (hr.le _ _ ht)
        · intro z
          rw [z] at lz
          cases lz
        · obtain ⟨u, hu, r2, e⟩ := zip_of_each (paired_each rs) b hb
          have hc := List.all_eq_true.mp c1 u hu
          rw [e]
          exact ⟨dp_of hr u b.1 7 hc r2, by have := (cl_shape u 7 hc).2; omega⟩
        · rw [paired_snd rs]
          intro d hd d' hd'
          obtain ⟨u, hu, rfl⟩ := List.mem_map.mp hd
          obtain ⟨u', hu', rfl⟩ := List.mem_map.mp hd'
          exact List.all_eq_true.mp (List.all_eq_true.mp c2 u hu) u' hu'
        · rw [paired_snd rs]
          intro d hd
          obtain ⟨u, hu, rfl⟩ := List.mem_map.mp hd
          exact pd_none (List.all_eq_true.mp c1 u hu) (by simpa using List.all_eq_true.mp c3 u hu)
        · rw [paired_fst rs, paired_snd rs, lz, Nat.add_sub_cancel] at hy
          have e1 : (fun i j => PySem.W.dataLt (((x :: xs).map pd).getD j .none) (((x :: xs).map pd).getD i .none)) = fun i j => (fun a b => PySem.W.dataLt (pd b) (pd a)) ((x :: xs).getD i .non) ((x :: xs).getD j .non) := by
            have g : ∀ i, ((x :: xs).map pd).getD i .none = pd ((x :: xs).getD i .non) := fun i => by
              rw [List.getD_eq_getElem?_getD, List.getD_eq_getElem?_getD, List.getElem?_map]
              cases (x :: xs)[i]? <;> rfl
            funext i j
            rw [g, g]
          rw [e1] at hy
          obtain ⟨le, e2⟩ := PySem.W.argBest_fold (fun a b => PySem.W.dataLt (pd b) (pd a)) Va.non x xs xs.length (Nat.le_refl _)
          rw [List.take_length] at e2
          have hlt : argBest (fun i j => (fun a b => PySem.W.dataLt (pd b) (pd a)) ((x :: xs).getD i .non) ((x :: xs).getD j .non)) xs.length < (x :: xs).length := Nat.lt_succ_of_le le
          rw [List.getD_eq_getElem?_getD, List.getElem?_eq_getElem hlt] at e2
          have e3 : (x :: xs)[argBest (fun i j => (fun a b => PySem.W.dataLt (pd b) (pd a)) ((x :: xs).getD i .non) ((x :: xs).getD j .non)) xs.length]? = some (argV x xs) := by
            rw [List.getElem?_eq_getElem hlt]
            exact congrArg some e2
          obtain ⟨z, hz, rz⟩ := rs.get e3
          have e4 : z = y := Option.some.inj (hz.symm.trans hy)
          subst e4
          exact k R H z hr Ext.refl rz
      · rw [if_neg c] at e0
        cases e0
  | _ => cases e0⟩
/-! ### the greater of two -/
theorem call_max_twoH {prog : Program} {w : World} {A : Around} {E : Value → Shared → Prop} {s : Shared} {a b : Value} {Q : Value → Shared → Prop}
    (h : wpAny (model prog w) A.in1 (pyIter (.ref s.heap.objs.size)) (fun it s₂ => ∃ I fp wr G n P St H bt, it = .ref I ∧ WalksS prog w A.in1 I fp wr G n P St ∧ St 0 s₂ ∧ (∀ b ∈ fp, b < s₂.heap.objs.size) ∧ 0 < n ∧
      (∀ b o, H.get? b = some o → b ∉ wr) ∧ (∀ b o, H.get? b = some o → s₂.heap.get? b = some o) ∧ CmpIn prog w A.in1 .Gt H P bt ∧ ∀ v s', P (argBest bt (n - 1)) v → Moved wr G s₂ s' → Q v s') E { s with heap := s.heap.push { cls := .type "tuple", data := .seq #[a, b] } }) :
    wpAny (model prog w) A (call (.builtin "max") [a, b]) Q E s := by
  have hname : (toString "max" ++ toString ".loop" : String) = "max.loop" := by decide
  refine call_function_tree F.kind_max F.plain_max F.entry_max (F.args_max2 _ _) ?_
  show wpAny _ A.in1 (Builtin.Builtins.bindParams "max" ["key", "default"] 0 ⟨[], []⟩ >>= _) _ _ s
  refine wpAny_bind (wpAny_of_eq (show Builtin.Builtins.bindParams "max" ["key", "default"] 0 ⟨[], []⟩ = pure [none, none] from rfl) ?_)
  show wpAny _ A.in1 (newTuple [a, b] >>= _) _ _ s
  refine wpAny_bind (wpAny_newObj_type ?_)
  refine wpAny_bind (wpAny_mono h (fun it s₂ h₂ => ?_) fun _ _ e => e)
  obtain ⟨I, fp, wr, G, n, P, St, H, bt, rfl, W, hst, hfp, hn, hw, hkeep, hcmp, hQ⟩ := h₂
  refine wpAny_bind (wpAny_newObj_type ?_)
  have hSf : s₂.heap.objs.size ∉ fp := fun hm => Nat.lt_irrefl _ (hfp _ hm)
  rw [hname]
  refine wpAny_pure ⟨plainId_quiet F.plain_max_loop _, codeAny_max_loop_firstH W H hw bt hcmp s₂.heap.objs.size hSf (fresh_in hkeep) _ hn (fun b o e => Heap.get?_push_of_some _ (hkeep b o e)) (W.frame 0 s₂ _ s₂.toks hst (Nat.le_refl _) fun b _ o e => Heap.get?_push_of_some _ e) (Heap.get?_push_size _ rfl) fun v s' hP hm => ?_⟩
  exact hQ v s' hP (Moved.drop_new (tk := s₂.toks) hm (Nat.le_refl _))
def vMax2D (a b : Va) : Option Va := if (ordB a b = true ∧ ordB b a = true) ∧ alikeB [a, b] = true then some (if PySem.W.dataLt (pd a) (pd b) = true then b else a) else none
theorem c_max2D (hc : X.calm = true) (hu : X.A.units + 70 < cLine) : ∃ r, CallR X (.builtin "max") r ∧ PrimA X r (two vMax2D) := by
  refine ⟨fun vs H Q => ∃ (x y : V) (d e : PyData), vs = [x, y] ∧ Dp X.K H x d ∧ Dp X.K H y e ∧ d.depth ≤ 8 ∧ e.depth ≤ 8 ∧ PySem.W.AlikeAll [d, e] ∧ Q (if PySem.W.dataLt d e = true then y else x) H, ?_, ?_⟩
  · intro pins s σ H vs us Q I r h
    obtain ⟨x, y, d, e, rfl, hx, hy, dx, dy, hal, q⟩ := h
    obtain ⟨u, w', rfl, r1, r2⟩ := vals2 r
    obtain ⟨as, g1⟩ := Dp.reads I d x u hx r1
    obtain ⟨bs, g2⟩ := Dp.reads I e y w' hy r2
    have kp : ∀ b o, s.heap.get? b = some o → (s.heap.push { cls := .type "tuple", data := .seq #[u, w'] }).get? b = some o := fun b o e => Heap.get?_push_of_some _ e
    have hr : ReadsAll (s.heap.push { cls := .type "tuple", data := .seq #[u, w'] }) (#[u, w'] : Array Value).toList [d, e] _ := .cons (Reads.keeps kp g1) (.cons (Reads.keeps kp g2) .nil)
    have ht : (s.heap.push { cls := .type "tuple", data := .seq #[u, w'] }).IsTuple s.heap.objs.size #[u, w'] := ⟨_, Heap.get?_push_size _ rfl, rfl, _, rfl⟩
    have hdp : PyData.depthAll [d, e] ≤ 8 := depthAll_le fun z hz => by
      rcases List.mem_cons.mp hz with z | hz
      · rw [z]; exact dx
      · rw [List.mem_singleton.mp hz]; exact dy
    refine call_max_twoH (PySem.W.iter_tupleW (A := X.A.in1) (s := { s with heap := s.heap.push { cls := .type "tuple", data := .seq #[u, w'] } }) (I.ok.hd hc) ht fun s₂ e1 W st hfp hw hk => ?_)
    refine ⟨_, _, _, _, _, _, _, s.heap.push { cls := .type "tuple", data := .seq #[u, w'] }, _, rfl, W, st, hfp, Nat.zero_lt_succ 1, hw, hk, PySem.W.cmpIn_gt (A := X.A.in1) (s := { s with heap := s.heap.push { cls := .type "tuple", data := .seq #[u, w'] } }) hr hal (by show X.A.units + 1 + _ < _; omega), fun v s' hP m => ?_⟩
    obtain ⟨h', tk, rfl, hk'⟩ := PySem.W.moved_old e1 rfl m
    have ea : argBest (fun i j => PySem.W.dataLt (([d, e] : List PyData).getD j .none) (([d, e] : List PyData).getD i .none)) ((#[u, w'] : Array Value).size - 1) = if PySem.W.dataLt d e = true then 1 else 0 := rfl
    rw [ea] at hP
    refine ⟨if PySem.W.dataLt d e = true then y else x, H, I.kept (fun b o q => hk' b o (kp b o q)), ?_, q⟩
    by_cases c : PySem.W.dataLt d e = true
    · rw [if_pos c] at hP ⊢
      have hP : some w' = some v := hP
      cases hP
      exact r2
    · rw [if_neg c] at hP ⊢
      have hP : some u = some v := hP
      cases hP
      exact r1
  · intro R S H ws vs w Q hr h e k
    obtain ⟨a, b, rfl, e0⟩ := two_of e
    obtain ⟨v, x, rfl, h1, h2⟩ := rv2 h
    unfold vMax2D at e0
    by_cases c : (ordB a b = true ∧ ordB b a = true) ∧ alikeB [a, b] = true
    · rw [if_pos c] at e0
      cases e0
      obtain ⟨c1, c2, c3, c4⟩ := ordB_ok c.1.1
      obtain ⟨_, _, c5, c6⟩ := ordB_ok c.1.2
      have c7 := c.2
      refine ⟨v, x, pd a, pd b, rfl, dp_of hr a v 7 c1 h1, dp_of hr b x 7 c2 h2, Nat.le_trans (cl_shape a 7 c1).2 (by decide), Nat.le_trans (cl_shape b 7 c2).2 (by decide), ⟨fun d hd e he => ?_, fun d hd => ?_⟩, ?_⟩
      · have up : ∀ z, z ∈ [pd a, pd b] → ∃ q ∈ [a, b], pd q = z := fun z hz => List.mem_map.mp (show z ∈ [a, b].map pd from hz)
        obtain ⟨p1, m1, rfl⟩ := up d hd
        obtain ⟨p2, m2, rfl⟩ := up e he
        exact List.all_eq_true.mp (List.all_eq_true.mp c7 p1 m1) p2 m2
      · rcases List.mem_cons.mp hd with z | hd
        · rw [z]; exact c4
        · rw [List.mem_singleton.mp hd]; exact c6
      · by_cases c : PySem.W.dataLt (pd a) (pd b) = true
        · rw [if_pos c] at k ⊢
          exact k R H x hr Ext.refl h2
        · rw [if_neg c] at k ⊢
          exact k R H v hr Ext.refl h1
    · rw [if_neg c] at e0
      cases e0
end
end Mi
end
section
/-! Mi, part Dc: methods of dicts, displays; lists of the store; lists times numbers; several types. -/
namespace Mi
open PySem PySem.Spec PyProof.Rows L2
section
variable {K : PySem.W.Frag} {mg : Str → Option Value} {R : RC} {S : Store} {H : Hp}
theorem isD_of (hr : Rel K mg R S H) {w : Va} {v : V} {l : List (Ke × Va)} (h : RepV K mg R w v) (e : dicR S w = some l) : ∃ p, v = .ref p ∧ IsD H p := by
  obtain ⟨i, p, vs, rfl, rfl, hi, hH, rs⟩ := dicR_ok hr h e
  exact ⟨p, rfl, .inl ⟨vs, hH⟩⟩
theorem RepK.getD {l : List (Ke × Va)} {vs : List (Key × V)} {k : Ke} {w : Va} {v : V} (rs : RepK K mg R l vs) (r : RepV K mg R w v) : RepV K mg R ((valL l k).getD w) ((valV vs k.key).getD v) := by
  cases q : valL l k with
  | none =>
    rw [(rs.get (k := k)).2 q]
    exact r
  | some u =>
    obtain ⟨x, hx, rx⟩ := (rs.get (k := k)).1 u q
    rw [hx]
    exact rx
def dropL (l : List (Ke × Va)) (k : Ke) : List (Ke × Va) := l.filter fun p => decide (p.1 ≠ k)
theorem RepK.drop {k : Ke} : ∀ {l : List (Ke × Va)} {vs : List (Key × V)}, RepK K mg R l vs → RepK K mg R (dropL l k) (dropK vs k.key)
  | [], vs, h => by
    have h : vs = [] := h
    subst h
    rfl
  | (k0, w0) :: l, vs, h => by
    obtain ⟨v, r, rfl, h1, h2⟩ := h
    have ih := RepK.drop (k := k) h2
    unfold dropL dropK at ih ⊢
    rw [List.filter_cons, List.filter_cons]
    by_cases c : k0 = k
    · subst c
      rw [if_neg (by simp), if_neg (by simp)]
      exact ih
    · have c2 : k0.key ≠ k.key := fun z => c (key_inj z)
      rw [if_pos (by simpa using c), if_pos (by simpa using c2)]
      exact ⟨v, _, rfl, h1, ih⟩
theorem RepK.merge : ∀ {more : List (Ke × Va)} {ms : List (Key × V)} {l : List (Ke × Va)} {vs : List (Key × V)}, RepK K mg R more ms → RepK K mg R l vs → RepK K mg R (more.foldl (fun acc p => putL acc p.1 p.2) l) (mergeK vs ms)
  | [], ms, l, vs, h, h' => by
    have h : ms = [] := h
    subst h
    exact h'
  | (k, w) :: more, ms, l, vs, h, h' => by
    obtain ⟨v, r, rfl, h1, h2⟩ := h
    show RepK K mg R (more.foldl (fun acc p => putL acc p.1 p.2) (putL l k w)) (mergeK (putK vs k.key v) r)
    exact RepK.merge h2 (h'.put h1)
end
section
variable {X : Cx} {R0 : RC} {H0 : Hp} {W : WX} {a b c e o : Expr} {es : List Expr} {fa fb fc fe fo : Evn → Store → Res Va} {fr : Evn → Store → Res (List Va)} {p pos pos' apos : Pos}
theorem m1_of {n : Str} {cpos : Pos} (hb : attributeBase o n X.env (eval o X.env) = eval o X.env) (hl : (apos.endLine == cpos.line) = true) (he : starEach [e] X.env = [(false, eval e X.env)]) : M1 X o n apos e cpos :=
  ⟨hb, few1 he, hl, by rw [he] <;> rfl⟩
theorem m2_of {n : Str} {cpos : Pos} (hb : attributeBase o n X.env (eval o X.env) = eval o X.env) (hl : (apos.endLine == cpos.line) = true) (he : starEach [e, b] X.env = [(false, eval e X.env), (false, eval b X.env)]) : M2 X o n apos e b cpos :=
  ⟨hb, by rw [he] <;> rfl, hl, by rw [he] <;> rfl⟩
/-- d.get(k) -/
def vDGet1 (S : Store) (w u : Va) : Option Va := match dicR S w, keOf u with
  | some l, some k => some ((valL l k).getD .non)
  | _, _ => none
def vDGet2 (S : Store) (w u z : Va) : Option Va := match dicR S w, keOf u with
  | some l, some k => some ((valL l k).getD z)
  | _, _ => none
def dgA (fb : Evn → Store → Res Va) (env : Evn) (w : Va) (S1 : Store) : Res Va := if (dicR S1 w).isSome = true then (fb env S1).bind fun u S2 => lift (vDGet1 S2 w u) S2 else .bad
def fDGet1 (fa fb : Evn → Store → Res Va) : Evn → Store → Res Va := fun env S => (fa env S).bind (dgA fb env)
def dgB (fb fc : Evn → Store → Res Va) (env : Evn) (w : Va) (S1 : Store) : Res Va := if (dicR S1 w).isSome = true then (fb env S1).bind fun u S2 => (fc env S2).bind fun z S3 => lift (vDGet2 S3 w u z) S3 else .bad
def fDGet2 (fa fb fc : Evn → Store → Res Va) : Evn → Store → Res Va := fun env S => (fa env S).bind (dgB fb fc env)
theorem isSome_of {α : Type} {x : Option α} (h : x.isSome = true) : ∃ y, x = some y := by
  cases x with
  | none => cases h
  | some y => exact ⟨y, rfl⟩
theorem e_dget1 (hu : X.A.units + 1 < cLine) (ha : OE X R0 H0 W o fa) (hb : OE X R0 H0 W e fb) (m : M1 X o "get" apos e pos) : OE X R0 H0 W (.Call (.Attribute o "get" apos) [e] [] pos) (fDGet1 fa fb) := PEi (pe_dget1 hu ha hb m) fun σ H Q h => by
  obtain ⟨R, S, env, A, h⟩ := h
  refine G_bind A h fun R1 S1 H1 w x A1 e1 r1 h1 => ?_
  obtain ⟨hs, h2⟩ := ite_wp h1
  obtain ⟨l, hl⟩ := isSome_of hs
  obtain ⟨p, rfl, isd⟩ := isD_of A1.rel r1 hl
  refine ⟨p, rfl, isd, G_bind A1 h2 fun R2 S2 H2 u y A2 e2 r2 h3 => ?_⟩
  obtain ⟨w', hw, h4⟩ := lift_wp h3
  unfold vDGet1 at hw
  split at hw
  · rename_i l2 k q1 q2
    cases hw
    obtain ⟨i, p', vs, rfl, ep, hi, hH, rs⟩ := dicR_ok A2.rel (r1.mono e2.r) q1
    cases ep
    exact ⟨valV vs k.key, by rw [keOf_ok q2 r2]; exact DGet.r hH, h4 R2 H2 _ A2 Ext.refl (rs.getD .mkNon)⟩
  · cases hw
theorem e_dget2 (hu : X.A.units + 1 < cLine) (ha : OE X R0 H0 W o fa) (hb : OE X R0 H0 W e fb) (hc : OE X R0 H0 W b fc) (m : M2 X o "get" apos e b pos) : OE X R0 H0 W (.Call (.Attribute o "get" apos) [e, b] [] pos) (fDGet2 fa fb fc) := PEi (pe_dget2 hu ha hb hc m) fun σ H Q h => by
  obtain ⟨R, S, env, A, h⟩ := h
  refine G_bind A h fun R1 S1 H1 w x A1 e1 r1 h1 => ?_
  obtain ⟨hs, h2⟩ := ite_wp h1
  obtain ⟨l, hl⟩ := isSome_of hs
  obtain ⟨p, rfl, isd⟩ := isD_of A1.rel r1 hl
  refine ⟨p, rfl, isd, G_bind A1 h2 fun R2 S2 H2 u y A2 e2 r2 h3 => ?_⟩
  refine G_bind A2 h3 fun R3 S3 H3 z v A3 e3 r3 h3 => ?_
  obtain ⟨w', hw, h4⟩ := lift_wp h3
  unfold vDGet2 at hw
  split at hw
  · rename_i l2 k q1 q2
    cases hw
    obtain ⟨i, p', vs, rfl, ep, hi, hH, rs⟩ := dicR_ok A3.rel (r1.mono (e2.trans e3).r) q1
    cases ep
    exact ⟨valV vs k.key, by rw [keOf_ok q2 (r2.mono e3.r)]; exact DGet.r hH, h4 R3 H3 _ A3 Ext.refl (rs.getD r3)⟩
  · cases hw
/-- d.pop(k) -/
def popD (S : Store) (w u : Va) : Option (Va × Store) := match w, dicOf S w, keOf u with
  | .ref i, some l, some k => (match valL l k with
    | some v => some (v, S.set i (.dic (dropL l k)))
    | none => none)
  | _, _, _ => none
theorem popD_of {S : Store} {w u : Va} {y : Va × Store} (h : popD S w u = some y) : ∃ i l k v, w = .ref i ∧ dicOf S w = some l ∧ keOf u = some k ∧ valL l k = some v ∧ y = (v, S.set i (.dic (dropL l k))) := by
  unfold popD at h
  split at h
  · rename_i i l k e1 e2
    cases q : valL l k with
    | none => rw [q] at h; cases h
    | some v =>
      rw [q] at h
      exact ⟨i, l, k, v, rfl, e2, e1, q, (Option.some.inj h).symm⟩
  · cases h
def popB (o : Option (Va × Store)) : Res Va := match o with
  | some (v, S) => .ok v S
  | none => .bad
def popA (fb : Evn → Store → Res Va) (env : Evn) (w : Va) (S1 : Store) : Res Va := if (dicR S1 w).isSome = true then (fb env S1).bind fun u S2 => popB (popD S2 w u) else .bad
def fDPop (fa fb : Evn → Store → Res Va) : Evn → Store → Res Va := fun env S => (fa env S).bind (popA fb env)
theorem e_dpop (ha : OE X R0 H0 W o fa) (hb : OE X R0 H0 W e fb) (m : M1 X o "pop" apos e pos) : OE X R0 H0 W (.Call (.Attribute o "pop" apos) [e] [] pos) (fDPop fa fb) := PEi (pe_dpop1 ha hb m) fun σ H Q h => by
  obtain ⟨R, S, env, A, h⟩ := h
  refine G_bind A h fun R1 S1 H1 w x A1 e1 r1 h1 => ?_
  obtain ⟨hs, h2⟩ := ite_wp h1
  obtain ⟨l, hl⟩ := isSome_of hs
  obtain ⟨p, rfl, isd⟩ := isD_of A1.rel r1 hl
  refine ⟨p, rfl, isd, G_bind A1 h2 fun R2 S2 H2 u y A2 e2 r2 h3 => ?_⟩
  cases q : popD S2 w u with
  | none => rw [q] at h3; exact h3.elim
  | some z =>
    rw [q] at h3
    obtain ⟨i, l2, k, v, rfl, q1, q2, q3, rfl⟩ := popD_of q
    obtain ⟨i', p', vs, e4, hS, ep, hi, g, hH, rs⟩ := dicOf_ok A2.rel (r1.mono e2.r) q1
    cases e4
    cases ep
    obtain ⟨x, hx, rx⟩ := (rs.get (k := k)).1 v q3
    refine ⟨vs, k.key, x, hH, keOf_ok q2 r2, hx, ?_⟩
    obtain ⟨rel, ext⟩ := A2.rel.write (so := .dic (dropL l2 k)) (o := .dK (dropK vs k.key)) hi g ⟨g, _, upd_same, rs.drop⟩
    exact h3 R2 _ x (A2.step ext rel) ext (rx.mono ext.r)
/-- len(d) -/
def vDLen (S : Store) (w : Va) : Option Va := (dicR S w).map fun l => .int l.length
def fDLen (fa : Evn → Store → Res Va) : Evn → Store → Res Va := fun env S => (fa env S).bind fun w S1 => lift (vDLen S1 w) S1
theorem call_dlen : CallR X (.builtin "len") (fun xs H Q => ∃ (a : Addr) (kvs : List (Key × V)), xs = [.ref a] ∧ Rd H a (.dK kvs) ∧ Q (.int kvs.length) H) := by
  intro pins s σ H xs us Q I r h
  obtain ⟨a, kvs, rfl, hd, q⟩ := h
  obtain rfl := Vals.ref1 r
  exact d_len I hd fun t s' I' => ⟨.int kvs.length, H, I', ⟨t, rfl⟩, q⟩
theorem e_dlen (hg : Gl X "len") (hm : X.mg "len" = none) (ha : OE X R0 H0 W e fa) (hs : starEach [e] X.env = [(false, eval e X.env)]) : OE X R0 H0 W (.Call (.Name "len" p) [e] [] pos) (fDLen fa) :=
  PEi (pe_callB call_dlen hg hm boot_len (pa_cons ha pa_nil hs) (by decide) (by decide) hs rfl) fun σ H Q h => by
    obtain ⟨R, S, env, A, h⟩ := h
    refine G_bind A h fun R1 S1 H1 w x A1 e1 r1 h1 => ?_
    obtain ⟨u, hu, h2⟩ := lift_wp h1
    unfold vDLen at hu
    obtain ⟨l, hl, rfl⟩ := Option.map_eq_some_iff.mp hu
    obtain ⟨i, p', vs, rfl, rfl, hi, hH, rs⟩ := dicR_ok A1.rel r1 hl
    refine ⟨p', vs, rfl, hH, ?_⟩
    rw [rs.length]
    exact h2 R1 H1 _ A1 Ext.refl .mkInt
/-- a dict's truth -/
def fDT (fa : Evn → Store → Res Va) : Evn → Store → Res Bool := fun env S => (fa env S).bind fun w S1 => lift ((dicOf S1 w).map fun l => !l.isEmpty) S1
theorem t_dT (ha : OE X R0 H0 W e fa) (he : ∀ whole, isTrue e X.env whole = (do let v ← whole; standAt e.pos; holding [v] (truthy v))) : OT X R0 H0 W e (fDT fa) :=
  PTi (pt_truth ha he) fun σ H Q h => by
    obtain ⟨R, S, env, A, h⟩ := h
    refine G_bind A h fun R1 S1 H1 w x A1 e1 r1 h1 => ?_
    obtain ⟨b, hb, h2⟩ := lift_wp h1
    obtain ⟨l, hl, rfl⟩ := Option.map_eq_some_iff.mp hb
    obtain ⟨i, p', vs, rfl, hS, rfl, hi, g, hH, rs⟩ := dicOf_ok A1.rel r1 hl
    refine ⟨_, .inr (.inr ⟨vs, hH, rfl⟩), ?_⟩
    have : vs.isEmpty = l.isEmpty := by
      have := rs.length
      cases vs <;> cases l <;> first | rfl | (simp at this)
    rw [this]
    exact h2 R1 H1 _ A1 Ext.refl rfl
/-! ### sorted(d) -/
def keIs : List (Ke × Va) → Option (List Int)
  | [] => some []
  | (.i n, _) :: r => (keIs r).map (n :: ·)
  | _ => none
def keSs : List (Ke × Va) → Option (List (List Nat))
  | [] => some []
  | (.s n, _) :: r => (keSs r).map (n :: ·)
  | _ => none
def sortTx (l : List (List Nat)) : List (List Nat) := l.mergeSort fun a b => decide (a ≤ b)
def vDSort (S : Store) (w : Va) : Option Va := match dicR S w with
  | some l => (match keIs l with
    | some ns => if ns.length < 64 then some (.lst ((ns.mergeSort fun a b => decide (a ≤ b)).map .int)) else none
    | none => match keSs l with
      | some ps => if ps.length < 64 then some (.lst ((sortTx ps).map .str)) else none
      | none => none)
  | none => none
def fDSort (fa : Evn → Store → Res Va) : Evn → Store → Res Va := fun env S => (fa env S).bind fun w S1 => lift (vDSort S1 w) S1
theorem keIs_ok {K : PySem.W.Frag} {mg : Str → Option Value} {R : RC} : ∀ {l : List (Ke × Va)} {vs : List (Key × V)} {ns : List Int}, RepK K mg R l vs → keIs l = some ns → vs.map (·.1) = ns.map Sum.inl
  | [], vs, ns, h, e => by
    have h : vs = [] := h
    subst h
    cases e
    rfl
  | (k, w) :: l, vs, ns, h, e => by
    obtain ⟨v, r, rfl, h1, h2⟩ := h
    cases k with
    | i n =>
      have e : (keIs l).map (n :: ·) = some ns := e
      obtain ⟨ms, hm, rfl⟩ := Option.map_eq_some_iff.mp e
      rw [List.map_cons, keIs_ok h2 hm]
      rfl
    | s n => cases e
theorem keSs_ok {K : PySem.W.Frag} {mg : Str → Option Value} {R : RC} : ∀ {l : List (Ke × Va)} {vs : List (Key × V)} {ns : List (List Nat)}, RepK K mg R l vs → keSs l = some ns → vs.map (·.1) = (ns.map mkT).map Sum.inr
  | [], vs, ns, h, e => by
    have h : vs = [] := h
    subst h
    cases e
    rfl
  | (k, w) :: l, vs, ns, h, e => by
    obtain ⟨v, r, rfl, h1, h2⟩ := h
    cases k with
    | s n =>
      have e : (keSs l).map (n :: ·) = some ns := e
      obtain ⟨ms, hm, rfl⟩ := Option.map_eq_some_iff.mp e
      rw [List.map_cons, keSs_ok h2 hm]
      rfl
    | i n => cases e
theorem sortedS_pw : ∀ {ys : List Str}, sortedS ys = true → ys.Pairwise fun a b => a.cps.toList ≤ b.cps.toList := by
  have go : ∀ (ys : List Str) (x : Str), risingS x ys = true → (x :: ys).Pairwise fun a b => a.cps.toList ≤ b.cps.toList := by
    intro ys
    induction ys with
    | nil => intro x _; simp
    | cons y ys ih =>
      intro x h
      have h : (!ltCps y.cps.toList x.cps.toList && risingS y ys) = true := h
      rw [Bool.and_eq_true, Bool.not_eq_true', ltCps_eq, decide_eq_false_iff_not] at h
      have h1 : x.cps.toList ≤ y.cps.toList := List.not_lt.mp h.1
      have h2 := ih y h.2
      rw [List.pairwise_cons] at h2 ⊢
      refine ⟨fun z hz => ?_, List.pairwise_cons.mpr h2⟩
      rcases List.mem_cons.mp hz with rfl | hz
      · exact h1
      · exact List.le_trans h1 (h2.1 z hz)
  intro ys h
  cases ys with
  | nil => exact List.Pairwise.nil
  | cons y ys => exact go ys y h
theorem sort_one {ns ys : List Int} (hp : ys.Perm ns) (hs : ys.Pairwise (· ≤ ·)) : ys = ns.mergeSort fun a b => decide (a ≤ b) := by
  have h1 := List.mergeSort_perm ns fun a b => decide (a ≤ b)
  have h2 : (ns.mergeSort fun a b => decide (a ≤ b)).Pairwise fun a b => decide (a ≤ b) = true := List.pairwise_mergeSort (le := fun (a b : Int) => decide (a ≤ b)) (fun a b c h h' => decide_eq_true (Int.le_trans (of_decide_eq_true h) (of_decide_eq_true h'))) (fun a b => by
    rcases Int.le_total a b with h | h <;> simp [h]) ns
  exact (hp.trans h1.symm).eq_of_pairwise (fun a b _ _ h h' => Int.le_antisymm h h') hs (h2.imp fun h => of_decide_eq_true h) |>.trans rfl
theorem sort_tx {ps : List (List Nat)} {ys : List Str} (hp : ys.Perm (ps.map mkT)) (hs : sortedS ys = true) : ys = (sortTx ps).map mkT := by
  have h0 : (ys.map fun y => y.cps.toList).Perm ps := by
    have := hp.map fun y => y.cps.toList
    rw [List.map_map] at this
    have e : ps.map ((fun y : Str => y.cps.toList) ∘ mkT) = ps := by
      conv => rhs; rw [← List.map_id ps]
      rfl
    rw [e] at this
    exact this
  have h1 := List.mergeSort_perm ps fun a b => decide (a ≤ b)
  have h2 : (sortTx ps).Pairwise fun a b => decide (a ≤ b) = true := List.pairwise_mergeSort (le := fun (a b : List Nat) => decide (a ≤ b)) (fun a b c h h' => decide_eq_true (List.le_trans (of_decide_eq_true h) (of_decide_eq_true h'))) (fun a b => by
    rcases List.le_total a b with h | h <;> simp [h]) ps
  have h3 : (ys.map fun y => y.cps.toList) = sortTx ps := by
    refine (h0.trans h1.symm).eq_of_pairwise (fun a b _ _ h h' => List.le_antisymm h h') ?_ (h2.imp fun h => of_decide_eq_true h)
    rw [List.pairwise_map]
    exact sortedS_pw hs
  rw [← h3, List.map_map]
  conv => lhs; rw [← List.map_id ys]
  rfl
theorem e_dsort (hcalm : X.calm = true) (hg : Gl X "sorted") (hm : X.mg "sorted" = none) (ha : OE X R0 H0 W e fa) (hs : starEach [e] X.env = [(false, eval e X.env)]) : OE X R0 H0 W (.Call (.Name "sorted" p) [e] [] pos) (fDSort fa) :=
  PEi (pe_callB ((call_sortedDI hcalm).or (call_sortedD hcalm)) hg hm boot_sorted (pa_cons ha pa_nil hs) (by decide) (by decide) hs rfl) fun σ H Q h => by
    obtain ⟨R, S, env, A, h⟩ := h
    refine G_bind A h fun R1 S1 H1 w x A1 e1 r1 h1 => ?_
    obtain ⟨u, hu, h2⟩ := lift_wp h1
    unfold vDSort at hu
    cases hl : dicR S1 w with
    | none => rw [hl] at hu; cases hu
    | some l =>
      rw [hl] at hu
      obtain ⟨i, p', vs, rfl, rfl, hi, hH, rs⟩ := dicR_ok A1.rel r1 hl
      cases hk : keIs l with
      | some ns =>
        have hu : (match keIs l with
          | some ns => if ns.length < 64 then some (Va.lst ((ns.mergeSort fun a b => decide (a ≤ b)).map .int)) else none
          | none => match keSs l with
            | some ps => if ps.length < 64 then some (Va.lst ((sortTx ps).map .str)) else none
            | none => none) = some u := hu
        rw [hk] at hu
        have hu : (if ns.length < 64 then some (Va.lst ((ns.mergeSort fun a b => decide (a ≤ b)).map .int)) else none) = some u := hu
        by_cases c : ns.length < 64
        · rw [if_pos c] at hu
          cases hu
          refine .inl ⟨p', vs, ns, rfl, hH, keIs_ok rs hk, c, fun ys q hp hs' hq => ?_⟩
          rw [sort_one hp hs']
          obtain ⟨n1, n2, n3⟩ := A1.rel.newL hq (RepVs.ofInts (ns.mergeSort fun a b => decide (a ≤ b)))
          exact h2 _ _ _ (A1.step n2 n1) n2 n3
        · rw [if_neg c] at hu
          cases hu
      | none =>
        have hu : (match keIs l with
          | some ns => if ns.length < 64 then some (Va.lst ((ns.mergeSort fun a b => decide (a ≤ b)).map .int)) else none
          | none => match keSs l with
            | some ps => if ps.length < 64 then some (Va.lst ((sortTx ps).map .str)) else none
            | none => none) = some u := hu
        rw [hk] at hu
        have hu : (match keSs l with
            | some ps => if ps.length < 64 then some (Va.lst ((sortTx ps).map .str)) else none
            | none => none) = some u := hu
        cases hk2 : keSs l with
        | none => rw [hk2] at hu; cases hu
        | some ps =>
          rw [hk2] at hu
          have hu : (if ps.length < 64 then some (Va.lst ((sortTx ps).map .str)) else none) = some u := hu
          by_cases c : ps.length < 64
          · rw [if_pos c] at hu
            cases hu
            refine .inr ⟨p', vs, ps.map mkT, rfl, hH, keSs_ok rs hk2, by rw [List.length_map]; exact c, fun ys q hp hs' hq => ?_⟩
            rw [sort_tx hp hs']
            obtain ⟨n1, n2, n3⟩ := A1.rel.newL hq (reps_strs (sortTx ps))
            exact h2 _ _ _ (A1.step n2 n1) n2 n3
          · rw [if_neg c] at hu
            cases hu
/-! ### a display of a dict with constant texts as keys -/
def isStar0 : Expr → Bool
  | .Starred .. => true
  | _ => false
/-- arguments, each seen by itself -/
inductive EachL (X : Cx) (R0 : RC) (H0 : Hp) (W : WX) : List Expr → (Evn → Store → Res (List Va)) → Prop
  | nil : EachL X R0 H0 W [] fNil
  | cons {e : Expr} {es : List Expr} {fe : Evn → Store → Res Va} {fr : Evn → Store → Res (List Va)} : isStar0 e = false → OE X R0 H0 W e fe → EachL X R0 H0 W es fr → EachL X R0 H0 W (e :: es) (fCons fe fr)
def dispL (ks : List (List Nat)) (ws : List Va) : List (Ke × Va) := ((ks.map Ke.s).zip ws).foldl (fun acc p => putL acc p.1 p.2) []
def dispK (ks : List (List Nat)) (ws : List Va) (S1 : Store) : Res Va := if (ks.length = ws.length ∧ 0 < ks.length ∧ ks.length ≤ 15) then .ok (.ref S1.length) (S1 ++ [.dic (dispL ks ws)]) else .bad
def fDisp (ks : List (List Nat)) (fr : Evn → Store → Res (List Va)) : Evn → Store → Res Va := fun env S => (fr env S).bind (dispK ks)
/-- keys that are these texts -/
def keysC : List (List Nat) → List (Option Expr) → Bool
  | [], [] => true
  | k :: ks, some (.Constant (.str x) _ _) :: r => decide (x = mkT k) && keysC ks r
  | _, _ => false
theorem pairs_read {dpos : Pos} : ∀ {es : List Expr} {fr : Evn → Store → Res (List Va)} {ks : List (List Nat)} {keys : List (Option Expr)}, EachL X R0 H0 W es fr → keysC ks keys = true → es.length = keys.length →
    ∃ trs, PPs X dpos keys es trs ∧ ∀ (σ : L2.St) (H : Hp) (P : List (V × V) → Hp → Prop), tG X.K X.mg R0 H0 W (repA X.K X.mg) fr σ H (fun vs H' => P ((ks.map fun k => V.str (mkT k)).zip vs) H') → tPairs trs σ H P
  | _, _, [], [], .nil, _, _ => ⟨[], pps_nil, fun σ H P h => by
    obtain ⟨R, S, env, A, h⟩ := h
    exact h R H [] A Ext.refl .nil⟩
  | _, _, _ :: _, [], _, hk, _ => by cases hk
  | _, _, [], _ :: _, _, hk, _ => by cases hk
  | _, _, k :: ks, key :: keys, .nil, _, hl => by cases hl
  | _, _, k :: ks, key :: keys, .cons (e := e) (es := es) (fe := fe) (fr := fr) h1 h2 h3, hk, hl => by
    cases key with
    | none => cases hk
    | some ke =>
      cases ke with
      | Constant c j kp =>
        cases c with
        | str x =>
          have hk : (decide (x = mkT k) && keysC ks keys) = true := hk
          rw [Bool.and_eq_true] at hk
          have ex : x = mkT k := of_decide_eq_true hk.1
          subst ex
          obtain ⟨trs, q1, q2⟩ := pairs_read (dpos := dpos) h3 hk.2 (by simpa using hl)
          refine ⟨_, pps_cons (k := .Constant (.str (mkT k)) j kp) (tk := tC (.str (mkT k))) pe_str h2 q1, fun σ H P h => ?_⟩
          show tG X.K X.mg R0 H0 W (repV X.K X.mg) fe σ H fun y H2 => tPairs trs σ H2 fun ps H3 => P ((V.str (mkT k), y) :: ps) H3
          obtain ⟨R, S, env, A, h⟩ := h
          refine G_bind A h fun R1 S1 H1 w v A1 e1 r1 h1 => q2 _ _ _ ?_
          refine G_bind A1 h1 fun R2 S2 H2 ws vs A2 e2 r2 h2 => ?_
          exact h2 R2 H2 (v :: vs) A2 Ext.refl (.cons (r1.mono e2.r) r2)
        | _ => cases hk
      | _ => cases hk
theorem keysC_all : ∀ {ks : List (List Nat)} {keys : List (Option Expr)}, keysC ks keys = true → keys.all (·.isSome) = true ∧ keys.length = ks.length
  | [], [], _ => ⟨rfl, rfl⟩
  | [], _ :: _, h => by cases h
  | _ :: _, [], h => by cases h
  | k :: ks, none :: r, h => by cases h
  | k :: ks, some e :: r, h => by
    cases e with
    | Constant c j p =>
      cases c with
      | str x =>
        have h : (decide (x = mkT k) && keysC ks r) = true := h
        rw [Bool.and_eq_true] at h
        obtain ⟨h1, h2⟩ := keysC_all h.2
        exact ⟨by rw [List.all_cons, h1]; rfl, by rw [List.length_cons, List.length_cons, h2]⟩
      | _ => cases h
    | _ => cases h
theorem RepK.zip {K : PySem.W.Frag} {mg : Str → Option Value} {R : RC} : ∀ {ks : List (List Nat)} {ws : List Va} {vs : List V}, RepVs K mg R ws vs → ks.length = ws.length → RepK K mg R ((ks.map Ke.s).zip ws) ((ks.map fun k => (Sum.inr (mkT k) : Key)).zip vs) ∧ ((ks.map fun k => V.str (mkT k)).zip vs) = ((ks.map fun k => (Sum.inr (mkT k) : Key)).zip vs).map fun kv => (kV kv.1, kv.2)
  | [], [], vs, _, _ => ⟨rfl, rfl⟩
  | [], _ :: _, _, _, hl => by cases hl
  | _ :: _, [], _, _, hl => by cases hl
  | k :: ks, w :: ws, vs, h, hl => by
    unfold RepVs at h
    obtain ⟨v, r, rfl, h1, h2⟩ := h
    obtain ⟨q1, q2⟩ := RepK.zip (ks := ks) h2 (by simpa using hl)
    refine ⟨⟨v, _, rfl, h1, q1⟩, ?_⟩
    rw [List.map_cons, List.zip_cons_cons, q2, List.map_cons, List.zip_cons_cons, List.map_cons]
    rfl
/-- an object of ours stands in the store from now on -/
theorem Rel.enter {K : PySem.W.Frag} {mg : Str → Option Value} {R : RC} {S : Store} {H : Hp} (r : Rel K mg R S H) {p : Addr} {so : SO} {o : HO} (hp : p ∉ R.ι) (g : R.G p = none) (new : RepO K mg ⟨R.G, R.ι ++ [p]⟩ (upd H p o) p so) : Rel K mg ⟨R.G, R.ι ++ [p]⟩ (S ++ [so]) (upd H p o) := by
  have le : RLe R ⟨R.G, R.ι ++ [p]⟩ := ⟨fun _ _ e => e, List.prefix_append _ _⟩
  refine ⟨fun b u e => ?_, by simp [r.len], ?_, fun b hb => ?_, fun j u b e1 e2 => ?_⟩
  · have e : R.G b = some u := e
    rw [upd_ne fun z => by rw [z, g] at e; cases e]
    exact r.le b u e
  · show (R.ι ++ [p]).Nodup
    rw [List.nodup_append]
    exact ⟨r.nd, by simp, fun a ha b hb z => by
      rw [List.mem_singleton.mp hb] at z
      exact hp (by rw [← z]; exact ha)⟩
  · have hb : b ∈ R.ι ++ [p] := hb
    by_cases c : b = p
    · rw [c, upd_same]
      exact fun z => nomatch z
    · rw [upd_ne c]
      rcases List.mem_append.mp hb with hb | hb
      · exact r.tr b hb
      · exact absurd (List.mem_singleton.mp hb) c
  · have e2 : (R.ι ++ [p])[j]? = some b := e2
    by_cases hj : j < S.length
    · rw [List.getElem?_append_left hj] at e1
      rw [List.getElem?_append_left (by rw [r.len]; exact hj)] at e2
      have hb : b ∈ R.ι := List.mem_of_getElem? e2
      exact (r.cell j u b e1 e2).keep le (upd_ne fun z => hp (by rw [← z]; exact hb)) fun z => z
    · rw [List.getElem?_append_right (by omega)] at e1
      rw [List.getElem?_append_right (by rw [r.len]; omega), r.len] at e2
      cases hk : j - S.length with
      | zero =>
        rw [hk] at e1 e2
        cases e1
        cases e2
        exact new
      | succ k =>
        rw [hk] at e1
        cases e1
/-- an object that was new since H, in the store from now on -/
theorem Ext.enter {R R1 : RC} {H H1 : Hp} {p : Addr} {o o' : HO} (hp : H p = none) (e : Ext R R1 (upd H p o) H1) : Ext R ⟨R1.G, R1.ι ++ [p]⟩ H (upd H1 p o') := by
  have ne : ∀ a u, H a = some u → a ≠ p := fun a u h z => by rw [z, hp] at h; cases h
  have back : ∀ a, upd H p o a = none → H a = none := fun a h => by
    by_cases c : a = p
    · rw [c]
      exact hp
    · rw [upd_ne c] at h
      exact h
  refine ⟨⟨e.r.le, e.r.ip.trans (List.prefix_append _ _)⟩, fun a u h ha => ?_, fun a u h => ?_, fun a h => ?_⟩
  · rw [upd_ne (ne a u h)]
    exact e.fr a u (by rw [upd_ne (ne a u h)]; exact h) ha
  · rcases e.gn a u h with z | z | z
    · exact .inl z
    · exact .inr (.inl (back a z))
    · exact .inr (.inr z)
  · have h : a ∈ R1.ι ++ [p] := h
    rcases List.mem_append.mp h with h | h
    · rcases e.inw a h with z | z
      · exact .inl z
      · exact .inr (back a z)
    · rw [List.mem_singleton.mp h]
      exact .inr hp
theorem e_disp {ks : List (List Nat)} {keys : List (Option Expr)} {es : List Expr} {fr : Evn → Store → Res (List Va)} (he : EachL X R0 H0 W es fr) (hk : keysC ks keys = true) (hl : es.length = keys.length) (h0 : 0 < ks.length) (h15 : ks.length ≤ 15) : OE X R0 H0 W (.Dict keys es pos) (fDisp ks fr) := by
  obtain ⟨trs, q1, q2⟩ := pairs_read (dpos := pos) he hk hl
  obtain ⟨k1, k2⟩ := keysC_all hk
  refine PEi (pe_disp q1 k1 hl.symm (fun z => by rw [z] at k2; simp at k2; omega) (by omega)) fun σ H Q h => ?_
  obtain ⟨R, S, env, A, h⟩ := h
  intro p hp
  refine q2 _ _ _ ?_
  obtain ⟨rel0, ext0⟩ := A.rel.junk (o := .dK []) hp
  have A0 := A.step ext0 rel0
  have g := A.rel.gnone hp
  have ni := A.rel.inone hp
  have h : ((fr env S).bind (dispK ks)).wp (KV X.K X.mg R0 H0 (repV X.K X.mg) R H env σ Q) (KE X.K X.mg R0 H0 W R env σ) := h
  rw [wp_bind] at h
  refine ⟨R, S, env, A0, wp_mono h (fun ws S1 h1 R1 H1 vs A1 e1 r1 => ?_) fun c a S1 h1 => h1⟩
  have h1 : (if (ks.length = ws.length ∧ 0 < ks.length ∧ ks.length ≤ 15) then Res.ok (Va.ref S1.length) (S1 ++ [.dic (dispL ks ws)]) else .bad).wp (KV X.K X.mg R0 H0 (repV X.K X.mg) R H env σ Q) (KE X.K X.mg R0 H0 W R env σ) := h1
  by_cases c : ks.length = ws.length ∧ 0 < ks.length ∧ ks.length ≤ 15
  · rw [if_pos c] at h1
    have hp1 : H1 p = some (.dK []) := e1.fr p _ upd_same ni
    have g1 : R1.G p = none := by
      cases q : R1.G p with
      | none => rfl
      | some u =>
        rcases e1.gn p u q with z | z | z
        · rw [g] at z; cases z
        · rw [upd_same] at z; cases z
        · exact absurd z ni
    have ni1 : p ∉ R1.ι := fun z => by
      rcases e1.inw p z with z | z
      · exact ni z
      · rw [upd_same] at z; cases z
    obtain ⟨z1, z2⟩ := RepK.zip (ks := ks) r1 c.1
    refine ⟨hp1, _, z2, by rw [List.length_zip, List.length_map]; omega, ?_⟩
    have le : RLe R1 ⟨R1.G, R1.ι ++ [p]⟩ := ⟨fun _ _ e => e, List.prefix_append _ _⟩
    have rep : RepK X.K X.mg R1 (dispL ks ws) (mergeK [] ((ks.map fun k => (Sum.inr (mkT k) : Key)).zip vs)) := RepK.merge z1 rfl
    have rel := A1.rel.enter (so := .dic (dispL ks ws)) (o := .dK (mergeK [] ((ks.map fun k => (Sum.inr (mkT k) : Key)).zip vs))) ni1 g1 ⟨g1, _, upd_same, rep.mono le⟩
    have ext : Ext R ⟨R1.G, R1.ι ++ [p]⟩ H (upd H1 p (.dK (mergeK [] ((ks.map fun k => (Sum.inr (mkT k) : Key)).zip vs)))) := Ext.enter hp e1
    refine h1 _ _ _ (A.step ext rel) ext ?_
    unfold repV RepV
    exact ⟨p, rfl, by rw [← A1.rel.len]; simp⟩
  · rw [if_neg c] at h1
    exact h1.elim
/-! ### lists of the store -/
theorem At.frzS {K : PySem.W.Frag} {mg : Str → Option Value} {R : RC} {S : Store} {H : Hp} {env : Evn} {σ : L2.St} (A : At K mg R0 H0 R S H env σ) {i j : Nat} {l : List Va} (hi : env[i]? = some (.val (.ref j))) (hS : S[j]? = some (.lst l)) : ∃ R', At K mg R0 H0 R' (S.set j .dead) H (env.set i (.val (.lst l))) σ ∧ RLe R R' := by
  obtain ⟨p, hj, g, vs, hH, rs⟩ := A.rel.objAt hS
  have mem : p ∈ R.ι := List.mem_of_getElem? hj
  have le : RLe R (R.add p (.lst vs)) := RLe.add g
  have split : ∀ (a : Addr) (o : HO), (R.add p (.lst vs)).G a = some o → (a = p ∧ o = .lst vs) ∨ (a ≠ p ∧ R.G a = some o) := fun a o e => by
    have e : upd R.G p (.lst vs) a = some o := e
    by_cases c : a = p
    · subst c
      rw [upd_same] at e
      exact .inl ⟨rfl, (Option.some.inj e).symm⟩
    · rw [upd_ne c] at e
      exact .inr ⟨c, e⟩
  have rel : Rel K mg (R.add p (.lst vs)) (S.set j .dead) H := by
    refine ⟨fun a o e => ?_, by rw [List.length_set]; exact A.rel.len, A.rel.nd, A.rel.tr, fun k so a e1 e2 => ?_⟩
    · rcases split a o e with ⟨rfl, rfl⟩ | ⟨_, e⟩
      · exact hH
      · exact A.rel.le a o e
    · have e2 : R.ι[k]? = some a := e2
      by_cases c : j = k
      · subst c
        obtain ⟨hjl, _⟩ := List.getElem?_eq_some_iff.mp e1
        rw [List.length_set] at hjl
        rw [List.getElem?_set_self hjl] at e1
        cases e1
        trivial
      · rw [List.getElem?_set_ne c] at e1
        have nb : a ≠ p := fun z => by
          subst z
          obtain ⟨h1, h2⟩ := List.getElem?_eq_some_iff.mp hj
          obtain ⟨h3, h4⟩ := List.getElem?_eq_some_iff.mp e2
          exact c ((List.getElem_inj A.rel.nd).mp (h2.trans h4.symm))
        refine (A.rel.cell k so a e1 e2).keep le rfl fun z => ?_
        show upd R.G p (.lst vs) a = none
        rw [upd_ne nb]
        exact z
  have ext : Ext R0 (R.add p (.lst vs)) H0 H := by
    refine ⟨A.ext.r.trans le, A.ext.fr, fun a o e => ?_, A.ext.inw⟩
    rcases split a o e with ⟨rfl, _⟩ | ⟨_, e⟩
    · rcases A.ext.inw a mem with z | z
      · exact .inr (.inr z)
      · exact .inr (.inl z)
    · exact A.ext.gn a o e
  have hil : i < env.length := (List.getElem?_eq_some_iff.mp hi).1
  have key : ∀ (k : Nat) (sl : Sl), (env.set i (.val (.lst l)))[k]? = some sl → (k = i ∧ sl = .val (.lst l)) ∨ (k ≠ i ∧ env[k]? = some sl) := fun k sl h => by
    by_cases c : i = k
    · subst c
      rw [List.getElem?_set_self hil] at h
      exact .inl ⟨rfl, (Option.some.inj h).symm⟩
    · rw [List.getElem?_set_ne c] at h
      exact .inr ⟨fun z => c z.symm, h⟩
  refine ⟨R.add p (.lst vs), ⟨ext, rel, by rw [List.length_set]; exact A.len, fun k w h => ?_, fun k m h => ?_, fun k1 k2 l l' q h1 h2 h3 h4 => ?_⟩, le⟩
  · rcases key k _ h with ⟨rfl, e⟩ | ⟨_, h⟩
    · cases e
      obtain ⟨v, h1, h2⟩ := A.val k _ hi
      obtain ⟨p', rfl, hp'⟩ := h2.ref_
      rw [hj] at hp'
      cases hp'
      refine ⟨_, h1, ?_⟩
      unfold RepV
      exact ⟨p, vs, rfl, upd_same, rs.mono le⟩
    · obtain ⟨v, h1, h2⟩ := A.val k w h
      exact ⟨v, h1, h2.mono le⟩
  · rcases key k _ h with ⟨_, e⟩ | ⟨_, h⟩
    · cases e
    · obtain ⟨q, us, h1, h2, h3, h4, h5, h6⟩ := A.own k m h
      refine ⟨q, us, h1, h2, h3.mono le, ?_, h5, h6⟩
      show upd R.G p (.lst vs) q = none
      rw [upd_ne fun z => h5 (by rw [z]; exact mem)]
      exact h4
  · rcases key k1 _ h1 with ⟨_, e⟩ | ⟨_, h1⟩
    · cases e
    · rcases key k2 _ h2 with ⟨_, e⟩ | ⟨_, h2⟩
      · cases e
      · exact A.dis k1 k2 l l' q h1 h2 h3 h4
/-- the list of the store in slot i is data from here on -/
def frzS (i : Nat) (env : Evn) (S : Store) : Evn × Store := match env[i]? with
  | some (.val (.ref j)) => (match S[j]? with
    | some (.lst l) => (env.set i (.val (.lst l)), S.set j .dead)
    | _ => (env, S))
  | _ => (env, S)
def sFrzS (i : Nat) (f : Evn → Store → RS) : Evn → Store → RS := fun env S => f (frzS i env S).1 (frzS i env S).2
theorem s_frzS {i : Nat} {st : Stmt} {f : Evn → Store → RS} (h : OS X R0 H0 W st f) : OS X R0 H0 W st (sFrzS i f) := PSi h fun D σ H q => by
  obtain ⟨R, S, env, A, q⟩ := q
  unfold sFrzS frzS at q
  split at q
  · rename_i j hj
    split at q
    · rename_i l hl
      obtain ⟨R', A', l'⟩ := A.frzS hj hl
      exact ⟨R', _, _, A', wps_rebase l' q⟩
    · exact ⟨R, S, env, A, q⟩
  · exact ⟨R, S, env, A, q⟩
def fLenS (fa : Evn → Store → Res Va) : Evn → Store → Res Va := fun env S => (fa env S).bind fun w S1 => lift ((lstOf S1 w).map fun l => .int l.length) S1
theorem e_lenS (hg : Gl X "len") (hm : X.mg "len" = none) (ha : OE X R0 H0 W e fa) (hs : starEach [e] X.env = [(false, eval e X.env)]) : OE X R0 H0 W (.Call (.Name "len" p) [e] [] pos) (fLenS fa) :=
  PEi (pe_callB call_len hg hm boot_len (pa_cons ha pa_nil hs) (by decide) (by decide) hs rfl) fun σ H Q h => by
    obtain ⟨R, S, env, A, h⟩ := h
    refine G_bind A h fun R1 S1 H1 w x A1 e1 r1 h1 => ?_
    obtain ⟨u, hu, h2⟩ := lift_wp h1
    obtain ⟨l, hl, rfl⟩ := Option.map_eq_some_iff.mp hu
    obtain ⟨_, p', vs, rfl, _, rfl, _, _, hH, rs⟩ := lstOf_ok A1.rel r1 hl
    exact ⟨_, _, rfl, .inl ⟨vs, SqL.of hH, rfl⟩, h2 R1 H1 _ A1 Ext.refl (by rw [RepVs.length rs]; exact .mkInt)⟩
def fTS (fa : Evn → Store → Res Va) : Evn → Store → Res Bool := fun env S => (fa env S).bind fun w S1 => lift ((lstOf S1 w).map fun l => !l.isEmpty) S1
theorem t_tS (ha : OE X R0 H0 W e fa) (he : ∀ whole, isTrue e X.env whole = (do let v ← whole; standAt e.pos; holding [v] (truthy v))) : OT X R0 H0 W e (fTS fa) :=
  PTi (pt_truth ha he) fun σ H Q h => by
    obtain ⟨R, S, env, A, h⟩ := h
    refine G_bind A h fun R1 S1 H1 w x A1 e1 r1 h1 => ?_
    obtain ⟨b, hb, h2⟩ := lift_wp h1
    obtain ⟨l, hl, rfl⟩ := Option.map_eq_some_iff.mp hb
    obtain ⟨_, p', vs, rfl, _, rfl, _, _, hH, rs⟩ := lstOf_ok A1.rel r1 hl
    exact ⟨_, .inl ⟨vs, SqL.of hH, by rw [RepVs.empty rs]⟩, h2 R1 H1 _ A1 Ext.refl rfl⟩
/-- list(l) of a list of the store: data -/
def fListS (fa : Evn → Store → Res Va) : Evn → Store → Res Va := fun env S => (fa env S).bind fun w S1 => lift ((lstOf S1 w).map .lst) S1
theorem e_listS (hg : Gl X "list") (hm : X.mg "list" = none) (ha : OE X R0 H0 W e fa) (hs : starEach [e] X.env = [(false, eval e X.env)]) : OE X R0 H0 W (.Call (.Name "list" p) [e] [] pos) (fListS fa) :=
  PEi (pe_callTy call_list_of hg hm boot_list (pa_cons ha pa_nil hs) (by decide) (by decide) hs rfl) fun σ H Q h => by
    obtain ⟨R, S, env, A, h⟩ := h
    refine G_bind A h fun R1 S1 H1 w x A1 e1 r1 h1 => ?_
    obtain ⟨u, hu, h2⟩ := lift_wp h1
    obtain ⟨l, hl, rfl⟩ := Option.map_eq_some_iff.mp hu
    obtain ⟨_, p', vs, rfl, _, rfl, _, _, hH, rs⟩ := lstOf_ok A1.rel r1 hl
    refine ⟨p', vs, rfl, .inl (SqL.of hH), fun q hq => ?_⟩
    obtain ⟨n1, n2, n3⟩ := A1.rel.newL hq rs
    exact h2 _ _ _ (A1.step n2 n1) n2 n3
/-- x = list(e): a list of one's own -/
def ownL1 (i : Nat) (env : Evn) (w : Va) (S : Store) : RS := match vList w with
  | some (.lst l) => .nx (env.set i (.own l)) S
  | _ => .bad
def sOwnK (i : Nat) (fe : Evn → Store → Res Va) : Evn → Store → RS := fun env S => (fe env S).toS env (ownL1 i env)
theorem s_ownK {i : Nat} {x : Str} (hN : X.N.Nodup) (hi : X.N[i]? = some x) (hx : Loc X.env.scope x) (hg : Gl X "list") (hm : X.mg "list" = none) (ha : OE X R0 H0 W e fe) (hs : starEach [e] X.env = [(false, eval e X.env)]) (hf : X.fn x = true) :
    OS X R0 H0 W (.Assign [.Name x pos'] (.Call (.Name "list" p) [e] [] apos) pos) (sOwnK i fe) :=
  PSi (ps_set hN hi hx (pe_callTy call_list_of hg hm boot_list (pa_cons ha pa_nil hs) (by decide) (by decide) hs rfl) rfl (.inl hf)) fun D σ H h => by
    obtain ⟨R, S, env, A, h⟩ := h
    refine S_bind A h fun R1 S1 H1 w x A1 e1 r1 h1 => ?_
    have fin : ∀ (q : Addr) (l : List Va) (vs : List V), H1 q = none → RepVs X.K X.mg R1 l vs → vList w = some (.lst l) → D.nx (σ.set i (some (.ref q))) (upd H1 q (.lst vs)) := fun q l vs hq rs hv => by
      obtain ⟨f1, f2, f3, f4⟩ := A1.fresh hq
      unfold ownL1 at h1
      rw [hv] at h1
      exact h1 R1 _ _ ((A1.other (o := .lst vs) f1 f2 f3 f4).setOwn rs upd_same f1 f2 f3 f4 i) (RLe.refl R1)
    cases w with
    | lst l =>
      obtain ⟨p', us, rfl, hp, rs⟩ := r1.lst_
      exact ⟨p', us, rfl, .inl (SqL.of (A1.rel.le _ _ hp)), fun q hq => fin q l us hq rs rfl⟩
    | tup l =>
      obtain ⟨p', us, rfl, hp, rs⟩ := r1.tup_
      exact ⟨p', us, rfl, .inr (A1.rel.sqT hp), fun q hq => fin q l us hq rs rfl⟩
    | scr l =>
      obtain ⟨p', rfl, hp⟩ := r1.scr_
      exact ⟨p', _, rfl, .inl (A1.rel.sqL hp), fun q hq => fin q _ _ hq (RepVs.ofInts l) rfl⟩
    | _ => exact h1.elim
/-- a comprehension whose list stands in the store -/
def olcK (w : Va) (S : Store) : Res Va := match w with
  | .lst l => .ok (.ref S.length) (S ++ [.lst l])
  | _ => .bad
def fOlc (fl : Evn → Store → Res Va) : Evn → Store → Res Va := fun env S => (fl env S).bind olcK
theorem upd_self {H : Hp} {p : Addr} {o : HO} (h : H p = some o) : upd H p o = H := by
  funext a
  by_cases c : a = p
  · rw [c, upd_same, h]
  · rw [upd_ne c]
theorem olc_read {wi : TI} {g : TG} {it : Evn → Store → Res (List Va)} {bind : Va → Evn → Option Evn} {ft : Evn → Store → Res Bool} {fe : Evn → Store → Res Va} {vs ts : List Nat} (hi : IterOk X R0 H0 W wi it) (ht : TgtS X R0 H0 g bind ts) (hs : ∀ j ∈ ts, j ∈ vs)
    {σ : L2.St} {H : Hp} {Q : VK} (h : tG X.K X.mg R0 H0 W (repV X.K X.mg) (fOlc (fLc it bind ft fe vs)) σ H Q) :
    tLc wi g (tG X.K X.mg R0 H0 WF repB ft) (tG X.K X.mg R0 H0 WF (repV X.K X.mg) fe) vs σ H Q := by
  obtain ⟨R, S, env, A, h⟩ := h
  have h : ((fLc it bind ft fe vs env S).bind olcK).wp (KV X.K X.mg R0 H0 (repV X.K X.mg) R H env σ Q) (KE X.K X.mg R0 H0 W R env σ) := h
  rw [wp_bind] at h
  refine lc_readG hi ht hs A h fun R1 S1 H1 D A1 e1 hD R' S' H' ys us A' e' hp rs hg hni k => ?_
  have hDH : H D = none := by
    cases q : H D with
    | none => rfl
    | some o =>
      by_cases hR : D ∈ R.ι
      · exact absurd hD (A1.rel.tr D (e1.r.ip.subset hR))
      · rw [e1.fr D o q hR] at hD
        cases hD
  have A2 := A1.step e' A'.rel
  have e := e1.trans e'
  have le : RLe R' ⟨R'.G, R'.ι ++ [D]⟩ := ⟨fun _ _ e => e, List.prefix_append _ _⟩
  have rel := A2.rel.enter (so := .lst ys) (o := .lst us) hni hg ⟨hg, us, upd_same, rs.mono le⟩
  rw [upd_self hp] at rel
  have ext2 : Ext R' ⟨R'.G, R'.ι ++ [D]⟩ H' H' → True := fun _ => trivial
  have ext : Ext R ⟨R'.G, R'.ι ++ [D]⟩ H H' := by
    refine ⟨e.r.trans le, e.fr, e.gn, fun a ha => ?_⟩
    have ha : a ∈ R'.ι ++ [D] := ha
    rcases List.mem_append.mp ha with ha | ha
    · exact e.inw a ha
    · rw [List.mem_singleton.mp ha]
      exact .inr hDH
  refine k _ H' _ (A.step ext rel) ext ?_
  unfold repV RepV
  exact ⟨D, rfl, by rw [← A2.rel.len]; simp⟩
/-! ### a list times a number -/
def vMulL : Va → Va → Option Va := fun a b => match a, b with
  | .lst l, .int k => if -4611686018427387904 ≤ k ∧ k < 4611686018427387904 ∧ l.length * k.toNat ≤ sizeLine then some (.lst (List.replicate k.toNat l).flatten) else none
  | _, _ => none
theorem RepVs.repl {K : PySem.W.Frag} {mg : Str → Option Value} {R : RC} {l : List Va} {vs : List V} (h : RepVs K mg R l vs) : ∀ n : Nat, RepVs K mg R (List.replicate n l).flatten (List.replicate n vs).flatten
  | 0 => .nil
  | n + 1 => by
    rw [List.replicate_succ, List.replicate_succ, List.flatten_cons, List.flatten_cons]
    exact h.append (RepVs.repl h n)
theorem o_mulL : ∃ r, OpR X (binaryOp .Mult) r ∧ Prim2 X r vMulL := ⟨_, op_rep, fun R S H w1 w2 x y w Q hr h1 h2 e k => by
  cases w1 with
  | lst l =>
    cases w2 with
    | int n =>
      have e : (if -4611686018427387904 ≤ n ∧ n < 4611686018427387904 ∧ l.length * n.toNat ≤ sizeLine then some (Va.lst (List.replicate n.toNat l).flatten) else none) = some w := e
      by_cases c : -4611686018427387904 ≤ n ∧ n < 4611686018427387904 ∧ l.length * n.toNat ≤ sizeLine
      · rw [if_pos c] at e
        cases e
        obtain ⟨p', us, rfl, hp, rs⟩ := h1.lst_
        refine ⟨p', n, us, rfl, h2.int_, hr.le _ _ hp, by omega, by omega, by rw [RepVs.length rs]; exact c.2.2, fun q hq => ?_⟩
        obtain ⟨n1, n2, n3⟩ := hr.newL hq (rs.repl n.toNat)
        exact k _ _ _ n1 n2 n3
      · rw [if_neg c] at e
        cases e
    | _ => cases e
  | _ => cases e⟩
/-! ### isinstance of several types -/
def isTyL (n : String) : List String → Option Bool
  | [] => some false
  | t :: ts => match isTyB n t with
    | some true => some true
    | some false => isTyL n ts
    | none => none
def vIsTs (ts : List String) (w : Va) : Option Va := match tyName w with
  | some n => (isTyL n ts).map .bl
  | none => none
def fIsTs (ts : List String) (fa : Evn → Store → Res Va) : Evn → Store → Res Va := fun env S => (fa env S).bind fun w S1 => lift (vIsTs ts w) S1
theorem kitAny_tys {K : PySem.W.Frag} {n : String} : ∀ {ts : List String} {b : Bool}, isTyL n ts = some b → PySem.W.kitAny K (.type n) (ts.map Value.type) = some b
  | [], b, h => by
    cases h
    exact kitAny_nil
  | t :: ts, b, h => by
    unfold isTyL at h
    cases q : isTyB n t with
    | none => rw [q] at h; cases h
    | some c =>
      rw [q] at h
      cases c with
      | true =>
        cases h
        exact kitAny_cons (b := true) (kit_ty (isTyB_ok q)) (fun z => by cases z) fun _ => rfl
      | false => exact kitAny_cons (kit_ty (isTyB_ok q)) (fun _ => kitAny_tys h) fun z => by cases z
theorem pa_tys : ∀ {ts : List String} {es : List Expr}, (es.length = ts.length) → (∀ i (h : i < es.length) (h' : i < ts.length), PE X es[i] (tC (.ty ts[i])) ∧ isStar0 es[i] = false) → PA X es (fun σ H Q => Q (ts.map V.ty) H)
  | [], [], _, _ => PAi pa_nil fun _ _ _ h => h
  | [], _ :: _, hl, _ => by cases hl
  | _ :: _, [], hl, _ => by cases hl
  | t :: ts, e :: es, hl, h => by
    have h0 := h 0 (by simp) (by simp)
    have ih := pa_tys (ts := ts) (es := es) (by simpa using hl) fun i h1 h2 => h (i + 1) (by simpa using h1) (by simpa using h2)
    refine PAi (pa_cons h0.1 ih ?_) fun σ H Q q => q
    cases e with
    | Starred _ _ => cases h0.2
    | _ => rfl
theorem reps_tys {K : PySem.W.Frag} {mg : Str → Option Value} {R : RC} : ∀ ts : List String, RepVs K mg R (ts.map Va.ty) (ts.map V.ty)
  | [] => .nil
  | t :: ts => .cons (by unfold RepV; rfl) (reps_tys ts)
theorem cls_tys : ∀ ts : List String, Paired ClsV (ts.map V.ty) (ts.map Value.type)
  | [] => .nil
  | t :: ts => .cons (.ty t) (cls_tys ts)
theorem e_isTs {ts : List String} {es : List Expr} {j : Nat} {tp : Pos} (hg : Gl X "isinstance") (hm : X.mg "isinstance" = none) (ha : OE X R0 H0 W e fa) (hl : es.length = ts.length) (hz : ts.length ≤ 1000) (ht : ∀ i (h : i < es.length) (h' : i < ts.length), PE X es[i] (tC (.ty ts[i])) ∧ isStar0 es[i] = false)
    (hs : starEach [e, .Tuple es j tp] X.env = (false, eval e X.env) :: starEach [.Tuple es j tp] X.env) : OE X R0 H0 W (.Call (.Name "isinstance" p) [e, .Tuple es j tp] [] pos) (fIsTs ts fa) :=
  PEi (pe_callB call_isiT hg hm boot_isinstance (pa_cons ha (pa_cons (pe_tup (pa_tys hl ht)) pa_nil rfl) hs) (by decide) (by decide) hs rfl) fun σ H Q h => by
    obtain ⟨R, S, env, A, h⟩ := h
    refine G_bind A h fun R1 S1 H1 w x A1 e1 r1 h1 => ?_
    obtain ⟨u, hu, h2⟩ := lift_wp h1
    unfold vIsTs at hu
    cases q : tyName w with
    | none => rw [q] at hu; cases hu
    | some n =>
      rw [q] at hu
      obtain ⟨b, hb, rfl⟩ := Option.map_eq_some_iff.mp (show (isTyL n ts).map Va.bl = some u from hu)
      refine ⟨by rw [List.length_map]; exact Nat.le_trans hz (by decide), fun tpd hp => ?_⟩
      obtain ⟨rel, ext⟩ := A1.rel.junk (o := .tup (ts.map V.ty)) hp
      exact ⟨x, tpd, ts.map V.ty, .type n, ts.map Value.type, b, rfl, upd_same, cls_tys ts, tyX_of rel r1 q, kitAny_tys hb, h2 R1 _ _ (A1.step ext rel) ext .mkBl⟩
end
end Mi
end
section
/-! Mi, part Dd: exceptions with a number; texts split so often; lists looked up, made longer. -/
namespace Mi
open PySem PySem.Spec PyProof.Rows L2 TL
/-! ### an exception class with its own __init__ that keeps a number as word -/
def oexB (K : PySem.W.Frag) (C : Addr) : Bool := (match K.lookup C with
  | some ⟨.type "type", _, .cls cd, sl⟩ => (match cd.mro, sl.toList with
    | .ref C' :: bm, [_, _, _, _, some (.builtin n), _] => C' == C && n == "ValueError.__new__" && !cd.hasDel && cd.hasDict && PySem.HandSPX.refsVE bm
    | _, _ => false)
  | _ => false) && decide (PySem.W.findIn K (.ref C) "__setattr__" = some (some (.builtin "object.__setattr__"))) && decide (PySem.W.subIn K (.ref C) (.type "BaseException") = some true) && decide (PySem.W.typeIn K (.ref C) = some (.type "type")) && PySem.W.keepIn K (.ref C)
  && decide (PySem.W.findIn K (.ref C) (Str.ofString "word") = some none) && xfB K C && decide (PySem.W.findIn K (.ref C) "__init__" = some (some (.ref (He.ma K C "__init__")))) && decide (PySem.W.typeIn K (.ref (He.ma K C "__init__")) = some (.type "function"))
structure WordC (K : PySem.W.Frag) (C : Addr) : Prop where
  o : OexC K C
  no : PySem.W.findIn K (.ref C) (Str.ofString "word") = some none
  xf : XfC K C
  ini : PySem.W.findIn K (.ref C) "__init__" = some (some (.ref (He.ma K C "__init__")))
  fn : PySem.W.typeIn K (.ref (He.ma K C "__init__")) = some (.type "function")
theorem oexB_ok {K : PySem.W.Frag} {C : Addr} (h : oexB K C = true) : WordC K C := by
  unfold oexB at h
  simp only [Bool.and_eq_true, decide_eq_true_eq] at h
  obtain ⟨⟨⟨⟨⟨⟨⟨⟨h1, h2⟩, h3⟩, h4⟩, h5⟩, h6⟩, h7⟩, h8⟩, h9⟩ := h
  refine ⟨⟨?_, h2, h3, h4, h5⟩, h6, xfB_ok h7, h8, h9⟩
  split at h1
  · rename_i dd cd sl ho
    split at h1
    · rename_i C' bm k0 k1 k2 k3 n k5 hm hs
      simp only [Bool.and_eq_true, beq_iff_eq, Bool.not_eq_true'] at h1
      obtain ⟨⟨⟨⟨rfl, rfl⟩, hdel⟩, hdct⟩, hr⟩ := h1
      obtain ⟨nm, bs, mro, ns, qn, hd, sn, sub, ab, col, del⟩ := cd
      dsimp only at hm hdel hdct
      subst hm hdel hdct
      have hsl : sl = #[k0, k1, k2, k3, some (.builtin "ValueError.__new__"), k5] := by
        obtain ⟨l⟩ := sl
        simp only at hs
        rw [hs]
      subst hsl
      exact ⟨nm, qn, ns, bs, bm, sn, sub, ab, col, dd, k0, k1, k2, k3, k5, ho, hr⟩
    · cases h1
  · cases h1
/-- its __init__ -/
def spW (C : Addr) : Sp := fun vs H Q E => vs.length = 2 ∧ ∃ (a : Addr) (n : Int), vs = [V.ref a, .int n] ∧ H a = some (exo a C none) ∧ ∀ dx, H dx = none → dx ≠ a → Q .non (upd (upd H dx (exd dx [((Str.ofString "word"), V.int n)])) a (exo a C (some dx)))
/-- the tree of such an __init__ -/
def wordB (N ps : List Str) (sc : Scope) (body : List Stmt) : Bool := match body, N with
  | [.Assign [.Attribute (.Name x _) m _] (.Name y _) _], [x', y'] => decide (x' = x) && decide (y' = y) && decide (m = Str.ofString "word") && decide (ps = [x, y]) && decide (sc.names.lookup x = some .local) && decide (sc.names.lookup y = some .local) && !(x == ("__debug__" : Str)) && !(x == ("__classdict__" : Str)) && !(y == ("__debug__" : Str)) && !(y == ("__classdict__" : Str))
  | _, _ => false
theorem word_ok {P : Program} {w : World} {K : PySem.W.Frag} {mg : Str → Option Value} {base : Heap} {x qual : Str} {params : Arguments} {body : List Stmt} {scope : Scope} {f C : Addr} {fd : FuncData} {N ps : List Str} (Wd : WordC K C) (F : FunD K x qual params body scope [] [] f fd) (Sc : FnScope N ps scope) (hb : wordB N ps scope body = true) :
    FnOk P w K mg base (L2.CX P w) 1 f fd ps (spW C) ∧ ps.length = 2 := by
  unfold wordB at hb
  split at hb
  · rename_i x px m ap y py pos x' y'
    simp only [Bool.and_eq_true, decide_eq_true_eq, Bool.not_eq_true'] at hb
    obtain ⟨⟨⟨⟨⟨⟨⟨⟨⟨rfl, rfl⟩, rfl⟩, hps⟩, h1⟩, h2⟩, h3⟩, h4⟩, h5⟩, h6⟩ := hb
    have hl : ps.length = 2 := by rw [hps]; rfl
    refine ⟨F.ok (k := 0) Sc (fun vs H Q E h => by rw [hl]; exact h.1) fun cdv A outer s H vs Q E hr h => ?_, hl⟩
    obtain ⟨_, a, n, rfl, hH, k⟩ := h
    refine ⟨_, pss_one (ps_ost (pe_var (i := 0) rfl (.inl h1) h3 h4) (pe_var (i := 1) rfl (.inl h2) h5 h6) rfl), ?_⟩
    exact ⟨.int n, rfl, .ref a, rfl, a, C, rfl, Wd.o, Wd.no, .inl ⟨hH, k⟩⟩
  · cases hb
/-- what the text says of a class whose exceptions bear a number -/
structure ExW (P : Program) (w : World) (K : PySem.W.Frag) (mg : Str → Option Value) (base : Heap) (k : Nat) (c : String) : Prop where
  ex : ∃ (C : Addr) (fd : FuncData) (ps : List Str) (j : Nat), j ≤ k ∧ mg (Str.ofString c) = some (.ref C) ∧ WordC K C ∧ FnOk P w K mg base (L2.CX P w) j (He.ma K C "__init__") fd ps (spW C) ∧ Binds K fd ps []
section
variable {X : Cx} {R0 : RC} {H0 : Hp} {W : WX} {a b c e o : Expr} {es : List Expr} {fa fb fc fe fo : Evn → Store → Res Va} {fr : Evn → Store → Res (List Va)} {p pos pos' apos : Pos}
def raiK (c : String) (env : Evn) (w : Va) (S : Store) : RS := match w with
  | .int n => .ex c (some n) env S
  | _ => .bad
def sRaiI (c : String) (fe : Evn → Store → Res Va) : Evn → Store → RS := fun env S => (fe env S).toS env (raiK c env)
theorem passes_no {X : Cx} : Passes (L2.CX X.prog X.w) X (fun _ _ _ => False) := fun pins σ H s e s' I hc => by
  obtain ⟨_, _, _, _, _, _, _, _, _, _, _, _, z⟩ := hc
  exact z.elim
theorem s_raiI {c : String} {k : Nat} (hc : X.calm = true) (tk : Takes X W) (E : ExW X.prog X.w X.K X.mg X.base k c) (hr : Room (k + 1) X.A) (hg : Gl X (Str.ofString c)) (hdb : (Str.ofString c == ("__debug__" : Str)) = false) (he : OE X R0 H0 W e fe) (hs : starEach [e] X.env = [(false, eval e X.env)]) :
    OS X R0 H0 W (.Raise (some (.Call (.Name (Str.ofString c) p) [e] [] pos')) none pos) (sRaiI c fe) := by
  obtain ⟨C, fd, ps, j, hj, hm, Wd, F, hb⟩ := E.ex
  refine PSi (ps_raise hc tk (pmk_oex Wd.o Wd.ini Wd.fn F (hr.mono (by omega)) hb .nil passes_no hg hm (pa_cons he pa_nil hs) hdb (by rw [hs]; rfl) rfl)) fun D σ H h => ?_
  obtain ⟨R, S, env, A, h⟩ := h
  have h : ((fe env S).toS env (raiK c env)).wp (KN X.K X.mg R0 H0 R D.nx) (KT X.K X.mg R0 H0 R D.rt) (KX X.K X.mg R0 H0 W R) := h
  refine S_bind A h fun R1 S1 H1 w v A1 e1 r1 h1 => ?_
  cases w with
  | int n =>
    rw [r1.int_]
    refine ⟨(by show 1 ≤ 1000; decide), fun a ha => ?_⟩
    refine ⟨rfl, a, n, rfl, upd_same, fun dx hdx ne => ?_⟩
    refine ⟨rfl, dx, [((Str.ofString "word"), V.int n)], upd_same, ?_, ?_, ?_⟩
    · rw [upd_ne ne, upd_same]
    · rw [upd_ne ne] at hdx
      exact hdx
    · have hdx1 : H1 dx = none := by
        rw [upd_ne ne] at hdx
        exact hdx
      have eh : upd (L2.del (upd (upd (upd H1 a (exo a C none)) dx (exd dx [((Str.ofString "word"), V.int n)])) a (exo a C (some dx))) a) dx (.xd [((Str.ofString "word"), V.int n)]) = upd H1 dx (.xd [((Str.ofString "word"), V.int n)]) := by
        funext b
        by_cases c1 : b = dx
        · rw [c1, upd_same, upd_same]
        · rw [upd_ne c1, upd_ne c1]
          by_cases c2 : b = a
          · rw [c2, L2.del_same, ha]
          · rw [L2.del_ne c2, upd_ne c2, upd_ne c1, upd_ne c2]
      rw [eh]
      obtain ⟨rel, ext⟩ := A1.rel.new (o := .xd [((Str.ofString "word"), V.int n)]) hdx1
      exact h1 _ _ σ (.ref C) (some dx) (A1.step ext rel) ext.r ⟨C, hm, rfl, dx, rfl, upd_same⟩
  | _ => exact h1.elim
/-! ### except T as n: m = n.word -/
theorem At.slotX {K : PySem.W.Frag} {mg : Str → Option Value} {R : RC} {S : Store} {H : Hp} {env : Evn} {σ : L2.St} (A : At K mg R0 H0 R S H env σ) (i : Nat) (x : Option V) : At K mg R0 H0 R S H (env.set i .no) (σ.set i x) := by
  have key : ∀ (j : Nat) (sl : Sl), (env.set i .no)[j]? = some sl → sl ≠ .no → j ≠ i ∧ env[j]? = some sl := fun j sl h n => by
    by_cases c : i = j
    · subst c
      by_cases hi : i < env.length
      · rw [List.getElem?_set_self hi] at h
        exact absurd (Option.some.inj h).symm n
      · rw [List.getElem?_eq_none (by simpa using hi)] at h
        cases h
    · rw [List.getElem?_set_ne c] at h
      exact ⟨fun z => c z.symm, h⟩
  refine ⟨A.ext, A.rel, by rw [List.length_set, List.length_set]; exact A.len, fun j w h => ?_, fun j l h => ?_, fun j k l l' p h1 h2 h3 h4 => ?_⟩
  · obtain ⟨c, h⟩ := key j _ h (fun z => nomatch z)
    obtain ⟨v, q1, q2⟩ := A.val j w h
    exact ⟨v, by rw [List.getElem?_set_ne fun z => c z.symm]; exact q1, q2⟩
  · obtain ⟨c, h⟩ := key j _ h (fun z => nomatch z)
    obtain ⟨p, vs, q1, q2⟩ := A.own j l h
    exact ⟨p, vs, by rw [List.getElem?_set_ne fun z => c z.symm]; exact q1, q2⟩
  · obtain ⟨c1, h1⟩ := key j _ h1 (fun z => nomatch z)
    obtain ⟨c2, h2⟩ := key k _ h2 (fun z => nomatch z)
    rw [List.getElem?_set_ne fun z => c1 z.symm] at h3
    rw [List.getElem?_set_ne fun z => c2 z.symm] at h4
    exact A.dis j k l l' p h1 h2 h3 h4
def tryWR (sub : String → String → Option Bool) (t : String) (i j : Nat) (r : RS) : RS := match r with
  | .ex c a env S => (match sub c t, a with
    | some true, some n => if c = t ∧ i < env.length then .nx (((env.set i .no).set j (.val (.int n))).set i .no) S else .bad
    | some false, a => .ex c a env S
    | _, _ => .bad)
  | r => r
def sTryW (sub : String → String → Option Bool) (t : String) (i j : Nat) (f : Evn → Store → RS) : Evn → Store → RS := fun env S => tryWR sub t i j (f env S)
theorem s_tryW {sub subT : String → String → Option Bool} {f : Evn → Store → RS} {body : List Stmt} {i j : Nat} {n m : Str} {t : String} {T : Addr} {np mp vp ap fp : Pos} (Z : SubOk X.K X.mg sub subT) (hs : X.stack = X.env :: X.outer) (hf : X.env.frame = some X.env.locals) (hN : X.N.Nodup) (hi : X.N[i]? = some n) (hln : X.env.scope.names.lookup n = some .local) (hj : X.N[j]? = some m) (hlm : X.env.scope.names.lookup m = some .local) (hij : i ≠ j)
    (hd1 : (n == ("__debug__" : Str)) = false) (hd2 : (n == ("__classdict__" : Str)) = false) (hg : Gl X (Str.ofString t)) (hdt : (Str.ofString t == ("__debug__" : Str)) = false) (hT : X.mg (Str.ofString t) = some (.ref T)) (Wd : WordC X.K T) (tk : Takes X W)
    (hb : ∀ (W' : WX) (pn : List (Addr × Obj)) (xe : Value → Shared → Prop), Takes (X.tr pn xe) W' → PassesOwn (model X.prog X.w) X.A X.env xe → OSs (X.tr pn xe) R0 H0 W' body f) :
    OS X R0 H0 W (.Try body [.ExceptHandler (some (.Name (Str.ofString t) np)) (some n) [.Assign [.Name m mp] (.Attribute (.Name n vp) (Str.ofString "word") fp) ap] pos'] [] [] pos) (sTryW sub t i j f) := by
  refine PSi (ps_try_as (c := .ref T) (tb := fun W' => tS X.K X.mg R0 H0 W' f) (ts := fun a cls d => tAsg (tXf a cls d T (Str.ofString "word") (tVar i)) (gName j)) hs hf hN hi hln ⟨hg, hdt, .inl hT⟩ tk hb (fun a oe cls d pn hz hd => ?_)) fun D σ H h => ?_
  · exact pss_one (ps_set (X := X.suite a ((a, oe) :: pn)) hN hj (.inl hlm) (pe_xf Wd.xf Wd.no hz hd (pe_var hi (.inl hln) hd1 hd2) rfl) rfl (.inr hlm))
  · obtain ⟨R, S, env, A, h⟩ := h
    refine ⟨R, S, env, A, ?_⟩
    unfold sTryW at h
    cases q : f env S with
    | nx e' S' => rw [q] at h; exact h
    | rt w S' => rw [q] at h; exact h
    | bad => rw [q] at h; exact h
    | ex c a e' S' =>
      rw [q] at h
      intro R' H' σ' cls d A' l rx
      have rx0 := rx
      obtain ⟨C, hC, rfl, hd⟩ := rx
      have h : (match sub c t, a with
        | some true, some n => if c = t ∧ i < e'.length then RS.nx (((e'.set i .no).set j (.val (.int n))).set i .no) S' else .bad
        | some false, a => .ex c a e' S'
        | _, _ => .bad).wp (KN X.K X.mg R0 H0 R D.nx) (KT X.K X.mg R0 H0 R D.rt) (KX X.K X.mg R0 H0 W R) := h
      cases hb2 : sub c t with
      | none => rw [hb2] at h; cases a <;> exact h.elim
      | some b =>
        rw [hb2] at h
        obtain ⟨_, _, hx⟩ := Z.own c t b C T hb2 hC hT
        cases b with
        | true =>
          cases a with
          | none => exact h.elim
          | some n' =>
            have h5 : (if c = t ∧ i < e'.length then RS.nx (((e'.set i .no).set j (.val (.int n'))).set i .no) S' else .bad).wp (KN X.K X.mg R0 H0 R D.nx) (KT X.K X.mg R0 H0 R D.rt) (KX X.K X.mg R0 H0 W R) := h
            by_cases ct : c = t ∧ i < e'.length
            · rw [if_pos ct] at h5
              obtain ⟨ct, hil0⟩ := ct
              subst ct
              rw [hT] at hC
              cases hC
              refine ⟨true, hx, fun _ p hp => ?_, fun z => Bool.noConfusion z⟩
              obtain ⟨dd, rfl, hdd⟩ := hd
              have hil : i < σ'.length := by
                rw [← A'.len]
                exact hil0
              refine ⟨.ref p, by rw [List.getElem?_set_self hil], rfl, rfl, dd, _, .int n', rfl, A'.rel.le _ _ hdd, by simp [List.lookup], ?_⟩
              exact h5 R' H' _ (((A'.slotX i (some (.ref p))).set (w := .int n') (v := .int n') .mkInt j).drop i) l
            · rw [if_neg ct] at h5
              exact h5.elim
        | false =>
          refine ⟨false, hx, fun z => Bool.noConfusion z, fun _ => ?_⟩
          have h2 : KX X.K X.mg R0 H0 W R c a e' S' := by
            cases a <;> exact h
          exact h2 R' H' σ' _ _ A' l rx0
/-! ### split so often -/
def strV (x : Str) : Va := .str x.cps.toList
theorem reps_strV {K : PySem.W.Frag} {mg : Str → Option Value} {R : RC} : ∀ ys : List Str, RepVs K mg R (ys.map strV) (ys.map V.str)
  | [] => .nil
  | y :: ys => .cons (show RepV K mg R (.str y.cps.toList) (.str y) from by unfold RepV; rfl) (reps_strV ys)
def spMV : Va → Va → Va → Option Va
  | .str a, .str b, .int k => if b ≠ [] ∧ -4611686018427387904 ≤ k ∧ k < 4611686018427387904 ∧ a.length + 2 ≤ sizeLine then some (.lst ((Txt.splitMax (mkT a) (mkT b) k).map strV)) else none
  | _, _, _ => none
def fSpMK (fa fb : Evn → Store → Res Va) (env : Evn) (w : Va) (S : Store) : Res Va := match w with
  | .str a => (fa env S).bind fun w2 S2 => (fb env S2).bind fun w3 S3 => lift (spMV (.str a) w2 w3) S3
  | _ => .bad
def fSpM (fo fa fb : Evn → Store → Res Va) : Evn → Store → Res Va := fun env S => (fo env S).bind (fSpMK fa fb env)
theorem spMV_of {a : List Nat} {w2 w3 w : Va} (h : spMV (.str a) w2 w3 = some w) : ∃ b k, w2 = .str b ∧ w3 = .int k ∧ (b ≠ [] ∧ -4611686018427387904 ≤ k ∧ k < 4611686018427387904 ∧ a.length + 2 ≤ sizeLine) ∧ w = .lst ((Txt.splitMax (mkT a) (mkT b) k).map strV) := by
  cases w2 with
  | str b =>
    cases w3 with
    | int k =>
      have h : (if b ≠ [] ∧ -4611686018427387904 ≤ k ∧ k < 4611686018427387904 ∧ a.length + 2 ≤ sizeLine then some (Va.lst ((Txt.splitMax (mkT a) (mkT b) k).map strV)) else none) = some w := h
      by_cases q : b ≠ [] ∧ -4611686018427387904 ≤ k ∧ k < 4611686018427387904 ∧ a.length + 2 ≤ sizeLine
      · rw [if_pos q] at h
        exact ⟨b, k, rfl, rfl, q, (Option.some.inj h).symm⟩
      · rw [if_neg q] at h
        cases h
    | _ => cases h
  | _ => cases w3 <;> cases h
theorem e_spM {e2 : Expr} (ho : OE X R0 H0 W o fo) (he : OE X R0 H0 W e fa) (he2 : OE X R0 H0 W e2 fb) (hs : starEach [e, e2] X.env = [(false, eval e X.env), (false, eval e2 X.env)]) (hs2 : starEach [e2] X.env = [(false, eval e2 X.env)]) (hbase : attributeBase o (Str.ofString "split") X.env (eval o X.env) = eval o X.env) (hline : (apos.endLine == pos.line) = true) :
    OE X R0 H0 W (.Call (.Attribute o (Str.ofString "split") apos) [e, e2] [] pos) (fSpM fo fa fb) :=
  PEi (pe_bm PySem.F.plainAttrs_str PySem.F.slot_str_split PySem.F.type_str_split mt_splitMax ho (pa_cons he (pa_cons he2 pa_nil hs2) (by rw [hs, hs2])) hbase (by rw [hs]; rfl) hline (by rw [hs, hs2]) (by rw [hs2]; rfl)) fun σ H Q h => by
    obtain ⟨R, S, env, A, h⟩ := h
    refine G_bind A h fun R1 S1 H1 w1 x A1 e1 r1 h1 => ?_
    cases w1 with
    | str a =>
      rw [r1.str_]
      refine ⟨rfl, ?_⟩
      refine G_bind A1 h1 fun R2 S2 H2 w2 y A2 e2 r2 h2 => ?_
      refine G_bind A2 h2 fun R3 S3 H3 w3 y3 A3 e3 r3 h3 => ?_
      obtain ⟨w, hw, h4⟩ := lift_wp h3
      obtain ⟨b, k, rfl, rfl, ⟨c1, c2, c3, c4⟩, rfl⟩ := spMV_of hw
      refine ⟨mkT a, mkT b, k, rfl, by rw [r2.str_, r3.int_], ?_, by omega, by omega, by rw [mkT_len]; exact c4, fun p hp => ?_⟩
      · rw [mkT_len]
        cases b with
        | nil => exact absurd rfl c1
        | cons _ _ => rfl
      · obtain ⟨n1, n2, n3⟩ := A3.rel.newL hp (reps_strV (Txt.splitMax (mkT a) (mkT b) k))
        exact h4 _ _ _ (A3.step n2 n1) n2 n3
    | _ => exact False.elim h1
/-! ### the place in a list of flat data -/
def idxV (z : Va) : List Va → Option Nat
  | [] => none
  | p :: ps => if p = z then some 0 else (idxV z ps).map (· + 1)
theorem idxV_ok : ∀ {ps : List Va} {z : Va} {j : Nat}, idxV z ps = some j → ps[j]? = some z ∧ ∀ m, m < j → ps[m]? ≠ some z
  | p :: ps, z, j, h => by
    have h : (if p = z then some 0 else (idxV z ps).map (· + 1)) = some j := h
    by_cases c : p = z
    · rw [if_pos c] at h
      cases h
      exact ⟨by rw [c]; rfl, fun m hm => absurd hm (Nat.not_lt_zero m)⟩
    · rw [if_neg c] at h
      cases q : idxV z ps with
      | none => rw [q] at h; cases h
      | some k =>
        rw [q] at h
        cases h
        obtain ⟨h1, h2⟩ := idxV_ok q
        refine ⟨h1, fun m hm => ?_⟩
        cases m with
        | zero => exact fun z => c (Option.some.inj z)
        | succ m => exact h2 m (Nat.lt_of_succ_lt_succ hm)
def lixV (w u : Va) : Option Va := match w with
  | .lst l => if flatW u && l.all flatW then (idxV u l).map fun (j : Nat) => .int (j : Int) else none
  | _ => none
def lixK (fa : Evn → Store → Res Va) (env : Evn) (w : Va) (S : Store) : Res Va := match w with
  | .lst l => (fa env S).bind fun u S2 => lift (lixV (.lst l) u) S2
  | _ => .bad
def fLix (fo fa : Evn → Store → Res Va) : Evn → Store → Res Va := fun env S => (fo env S).bind (lixK fa env)
theorem RepVs.get2 {K : PySem.W.Frag} {mg : Str → Option Value} {R : RC} {ws : List Va} {vs : List V} {i : Nat} {v : V} (h : RepVs K mg R ws vs) (e : vs[i]? = some v) : ∃ w, ws[i]? = some w ∧ RepV K mg R w v := by
  have hl := RepVs.length h
  have hi : i < ws.length := by
    have := (List.getElem?_eq_some_iff.mp e).1
    omega
  obtain ⟨u, hu, ru⟩ := h.get (List.getElem?_eq_getElem hi)
  rw [e] at hu
  cases hu
  exact ⟨ws[i], List.getElem?_eq_getElem hi, ru⟩
theorem e_lix (ho : OE X R0 H0 W o fo) (he : OE X R0 H0 W e fa) (hs : starEach [e] X.env = [(false, eval e X.env)]) (hbase : attributeBase o (Str.ofString "index") X.env (eval o X.env) = eval o X.env) (hline : (apos.endLine == pos.line) = true) :
    OE X R0 H0 W (.Call (.Attribute o (Str.ofString "index") apos) [e] [] pos) (fLix fo fa) :=
  PEi (pe_bm PySem.F.plainAttrs_list PySem.F.slot_list_index PySem.F.type_list_index mt_index ho (pa_cons he pa_nil hs) hbase (few1 hs) hline hs rfl) fun σ H Q h => by
    obtain ⟨R, S, env, A, h⟩ := h
    refine G_bind A h fun R1 S1 H1 w1 x A1 e1 r1 h1 => ?_
    cases w1 with
    | lst l =>
      obtain ⟨p', us, rfl, hp, rs⟩ := r1.lst_
      refine ⟨.inl ⟨rfl, us, SqL.of (A1.rel.le _ _ hp)⟩, ?_⟩
      refine G_bind A1 h1 fun R2 S2 H2 u y A2 e2 r2 h2 => ?_
      obtain ⟨w, hw, h3⟩ := lift_wp h2
      have hw : (if flatW u && l.all flatW then (idxV u l).map fun (j : Nat) => Va.int (j : Int) else none) = some w := hw
      by_cases c : (flatW u && l.all flatW) = true
      · rw [if_pos c] at hw
        obtain ⟨j, hj, rfl⟩ := Option.map_eq_some_iff.mp hw
        rw [Bool.and_eq_true] at c
        obtain ⟨i1, i2⟩ := idxV_ok hj
        have rs2 := rs.mono e2.r
        obtain ⟨z, hz, rz⟩ := rs2.get i1
        refine ⟨p', us, y, j, z, rfl, rfl, SqL.of (A2.rel.le _ _ (e2.r.le _ _ hp)), flat_ok r2 c.1, flats_ok rs2 c.2, hz, ?_, fun m z' hm hz' => ?_, h3 R2 H2 _ A2 Ext.refl .mkInt⟩
        · rw [eqV_ok rz r2 c.1 c.1]
          simp
        · obtain ⟨w', hw', rw'⟩ := rs2.get2 hz'
          have fw : flatW w' = true := List.all_eq_true.mp c.2 w' (List.mem_of_getElem? hw')
          rw [eqV_ok rw' r2 fw c.1]
          exact decide_eq_false fun z => i2 m hm (by rw [hw', z])
      · rw [if_neg c] at hw
        cases hw
    | _ => exact False.elim h1
/-! ### x.extend(e) of a list of one's own -/
def extK (i : Nat) (env : Evn) (l : List Va) (w : Va) (S : Store) : RS := match w with
  | .lst m => if l.length + m.length ≤ sizeLine then .nx (env.set i (.own (l ++ m))) S else .bad
  | _ => .bad
def sExt (i : Nat) (fe : Evn → Store → Res Va) : Evn → Store → RS := fun env S => match ownAt env i with
  | some l => (fe env S).toS env (extK i env l)
  | none => .bad
theorem s_ext {i : Nat} {x : Str} {xp : Pos} (hN : X.N[i]? = some x) (hv : Vis X.env.scope x) (hd : (x == ("__debug__" : Str)) = false) (hcd : (x == ("__classdict__" : Str)) = false) (he : OE X R0 H0 W e fe) (hst : starEach [e] X.env = [(false, eval e X.env)]) (hline : (apos.endLine == p.line) = true) :
    OS X R0 H0 W (.Expr (.Call (.Attribute (.Name x xp) "extend" apos) [e] [] p) pos) (sExt i fe) := by
  have ha : PA X [e] (tCons (tG X.K X.mg R0 H0 W (repV X.K X.mg) fe) tNil) := pa_cons he pa_nil hst
  refine PSi (ps_expr (pe_bm PySem.F.plainAttrs_list PySem.F.slot_list_extend PySem.F.type_list_extend mt_extend (pe_var hN hv hd hcd) ha rfl (few1 hst) hline hst rfl) rfl) fun D σ H h => ?_
  obtain ⟨R, S, env, A, h⟩ := h
  unfold sExt at h
  cases hl : ownAt env i with
  | none =>
    rw [hl] at h
    exact h.elim
  | some l =>
    rw [hl] at h
    have hs := ownAt_of hl
    obtain ⟨q, vs, h1, h2, h3, h4, h5, h6⟩ := A.own i l hs
    refine ⟨.ref q, h1, .inl ⟨rfl, vs, SqL.of h2⟩, ?_⟩
    refine S_bind A h fun R1 S1 H1 w v A1 e1 r1 hh => ?_
    obtain ⟨q', us, g1, g2, g3, g4, g5, g6⟩ := A1.own i l hs
    rw [h1] at g1
    cases g1
    cases w with
    | lst m =>
      have hh : (if l.length + m.length ≤ sizeLine then RS.nx (env.set i (.own (l ++ m))) S1 else .bad).wp (KN X.K X.mg R0 H0 R1 D.nx) (KT X.K X.mg R0 H0 R1 D.rt) (KX X.K X.mg R0 H0 W R1) := hh
      by_cases hz : l.length + m.length ≤ sizeLine
      · rw [if_pos hz] at hh
        obtain ⟨b, zs, rfl, hb, rz⟩ := r1.lst_
        refine ⟨q, b, us, zs, rfl, rfl, g2, A1.rel.le _ _ hb, by rw [RepVs.length g3, RepVs.length rz]; exact hz, ?_⟩
        exact hh R1 _ σ (A1.grow hs h1 g2 (g3.append rz)) (RLe.refl R1)
      · rw [if_neg hz] at hh
        exact hh.elim
    | _ => exact hh.elim
end
end Mi
end
section
/-! Mi, part De: how often a truth stands in a list of truths. -/
namespace Mi
open PySem PySem.Spec PyProof.Rows L2
section
variable {X : Cx} {R0 : RC} {H0 : Hp} {W : WX}
theorem bools_of_vals : ∀ {bs : List Bool} {us : List Value}, Vals (bs.map V.bl) us → us = bs.map Value.bool
  | [], us, r => by
    rw [List.map_nil] at r
    cases r
    rfl
  | b :: bs, us, r => by
    rw [List.map_cons] at r
    cases r with
    | cons r1 r2 =>
      cases r1
      rw [bools_of_vals r2]
      rfl
theorem count_bools (k : Bool) : ∀ bs : List Bool, (bs.map Value.bool).countP (isBoolOf k) = bs.count k
  | [] => rfl
  | b :: bs => by
    rw [List.map_cons, List.countP_cons, List.count_cons, count_bools k bs]
    rfl
def rCntB (K : PySem.W.Frag) : V → List V → Hp → VK → Prop := fun x xs H Q => ∃ (p : Addr) (bs : List Bool) (k : Bool), x = .ref p ∧ xs = [.bl k] ∧ SqL K H p (bs.map V.bl) ∧ Q (.int (bs.count k : Nat)) H
theorem mt_lcountB : MtR X "list.count" (rCntB X.K) := by
  intro pins s σ H x xs v us Q I rx rxs h
  obtain ⟨p, bs, k, rfl, rfl, hs, q⟩ := h
  cases rx
  obtain ⟨u, rfl, ru⟩ := rxs.one
  cases ru
  obtain ⟨its, rv, ⟨⟨cls, dd, data, sl⟩, n, ho, hc, hdn, hd⟩, hlen⟩ := I.list hs
  simp only at hc hd
  subst hc hd
  have hi := bools_of_vals rv
  subst hi
  refine call_meets PySem.F.slot_list_count ⟨_, ho, rfl⟩ PySem.F.entry_list_count (PySem.F.args_list_count_2 _ _)
    (SeqAt.list_countAt p (bs.map Value.bool).toArray n dd sl (.bool k) (isBoolOf k)) ⟨ho, fun y hy => ?_, ?_⟩
  · obtain ⟨b, _, rfl⟩ := List.mem_map.mp (show y ∈ bs.map Value.bool by simpa using hy)
    exact PySem.SeqAt.EqAt.bool_bool b k
  · refine ⟨.int (bs.count k : Nat), H, I.tok _, ⟨s.toks, ?_⟩, q⟩
    show Value.int (((bs.map Value.bool).toArray.toList.countP (isBoolOf k) : Nat) : Int) s.toks = Value.int ((bs.count k : Nat) : Int) s.toks
    rw [show (bs.map Value.bool).toArray.toList = bs.map Value.bool from rfl, count_bools]
def lcntV (w u : Va) : Option Va := match w, u with
  | .lst l, .bl k => (blsOf l).map fun bs => .int ((bs.count k : Nat) : Int)
  | _, _ => none
def lcntK (fa : Evn → Store → Res Va) (env : Evn) (w : Va) (S : Store) : Res Va := match w with
  | .lst l => (fa env S).bind fun u S2 => lift (lcntV (.lst l) u) S2
  | _ => .bad
def fLcnt (fo fa : Evn → Store → Res Va) : Evn → Store → Res Va := fun env S => (fo env S).bind (lcntK fa env)
variable {o e : Expr} {fo fa : Evn → Store → Res Va} {pos apos : Pos}
theorem e_lcnt (ho : OE X R0 H0 W o fo) (he : OE X R0 H0 W e fa) (hs : starEach [e] X.env = [(false, eval e X.env)]) (hbase : attributeBase o (Str.ofString "count") X.env (eval o X.env) = eval o X.env) (hline : (apos.endLine == pos.line) = true) :
    OE X R0 H0 W (.Call (.Attribute o (Str.ofString "count") apos) [e] [] pos) (fLcnt fo fa) :=
  PEi (pe_bm PySem.F.plainAttrs_list PySem.F.slot_list_count PySem.F.type_list_count mt_lcountB ho (pa_cons he pa_nil hs) hbase (few1 hs) hline hs rfl) fun σ H Q h => by
    obtain ⟨R, S, env, A, h⟩ := h
    refine G_bind A h fun R1 S1 H1 w1 x A1 e1 r1 h1 => ?_
    cases w1 with
    | lst l =>
      obtain ⟨p', us, rfl, hp, rs⟩ := r1.lst_
      refine ⟨.inl ⟨rfl, us, SqL.of (A1.rel.le _ _ hp)⟩, ?_⟩
      refine G_bind A1 h1 fun R2 S2 H2 u y A2 e2 r2 h2 => ?_
      obtain ⟨w, hw, h3⟩ := lift_wp h2
      cases u with
      | bl k =>
        have hw : ((blsOf l).map fun bs => Va.int ((bs.count k : Nat) : Int)) = some w := hw
        cases q : blsOf l with
        | none => rw [q] at hw; cases hw
        | some bs =>
          rw [q] at hw
          cases hw
          have ee := blsOf_eq q
          subst ee
          have rb := r2.bl_
          subst rb
          rw [rs.bls] at hp
          exact ⟨p', bs, k, rfl, rfl, SqL.of (A2.rel.le _ _ (e2.r.le _ _ hp)), h3 R2 H2 _ A2 Ext.refl .mkInt⟩
      | _ => cases hw
    | _ => exact False.elim h1
end
end Mi
end
section
/-! Mi, part J: the terms, what they mean, and when a tree is one. -/
namespace Mi
open PySem PySem.Spec PyProof.Rows L2

inductive B2 where
  | add | sub | mul | div | mod | pow
inductive CO where
  | eq | ne | lt | le | gt | ge | is | isnot | in_ | notin
inductive P where
  | len | int | abs | max | min | sum | all | any | list | tuple | isinst | sorted | str | ord | intT
/-- a target -/
inductive Tg where
  | one (i : Nat) | many (is : List Nat)
/-- expressions, argument lists, iterables -/
inductive E where
  | con (w : Va) | var (i : Nat) | glo (x : String)
  | bin (o : B2) (a b : E) | cmp (o : CO) (a b : E) | chain (o o' : CO) (a b c : E) | neg (a : E) | ix (a b : E)
  | not (a : E) | and (a b : E) | or (a b : E) | ife (c a b : E)
  | tup (l : E) | lst (l : E) | anil | acons (a r : E)
  | prim (p : P) (l : E) | call (f : String) (l : E) | meth (c m : String) (o l : E) | new (c : String) (l : E) | fld (o : E) (f : String)
  | lc (tg : Tg) (vs : List Nat) (it t e : E) | yes
  | itR (l : E) | itV (l : E) | lrg (l : E) | isE (l : E) | sl (a lo hi : E) | olst (l : E) | ixS (a b : E) | eqS (n : Bool) (a b : E) | ssort (a : E) | inT (a b : E) | orv (a b : E) | call0 (f : String)
  | ch3 (o o' o'' : CO) (a b c d : E) | oIx (i : Nat) (b : E) | oLen (i : Nat) | oT (i : Nat) | sk (f : String) (a : E) | tm (m : TM) (o a : E) | tix (y : String) (a : E) | rj (o a b : E) | callV (fs : List String) (i : Nat) (l : E) | dnew | dget (a b : E) | din (n : Bool) (a b : E) | itD (a : E) | itW (a : E) | dget1 (o a : E) | dget2 (o a b : E) | dpop (o a : E) | dlen (a : E) | dT (a : E) | dsort (a : E) | ddisp (ks : List (List Nat)) (l : E) | lenS (a : E) | tS (a : E) | listS (a : E) | olc (tg : Tg) (vs : List Nat) (it t e : E) | isTs (ts : List String) (a : E) | spM (o a b : E) | lix (o a : E) | lcnt (o a : E)
/-- statements -/
inductive Ks where
  | skip | seq (a b : Ks) | asg (i : Nat) (e : E) | ownL (i : Nat) (l : E) | app (i : Nat) (e : E) | setO (i : Nat) (k e : E) | asgT (is : List Nat) (e : E) | par (i j : Nat) (l : E)
  | setF (o : E) (f : String) (e : E) | expr (e : E) | ife (c : E) (a b : Ks) | whl (c : E) (b : Ks) | for_ (tg : Tg) (it : E) (b : Ks) | ret (e : E) | retN | raise (c : String) | frz (i : Nat) (k : Ks) | kept (t : String) (i j : Nat) (b : Ks) | setS (o k e : E) | asgA (i : Nat) (fs : List String) (e : E) | ownC (i : Nat) (e : E) | tryN (t : String) (j : Nat) (b : Ks) | putD (o k e : E) | lk (p : E) (k : Ks) | frzS (i : Nat) (k : Ks) | ownK (i : Nat) (e : E) | raiseI (c : String) (e : E) | tryW (t : String) (i j : Nat) (b : Ks) | ext (i : Nat) (e : E)

/-- nothing there -/
def isAbs : E → Bool
  | .anil => true
  | _ => false
/-- what the names mean -/
structure Ga where
  fn : String → Option (List Va → Store → Res Va)
  meth : String → String → Option (List Va → Store → Res Va)
  init : String → Option (List Va → Store → Res Va)
  glo : String → Option Va
  fld : String → String → Bool
  fuel : Nat
  sub : String → String → Option Bool
  subT : String → String → Option Bool
  key : String → Option KeyS := fun _ => none
  exi : String → Bool := fun _ => false

def b2 : B2 → Va → Va → Option Va
  | .add => vAdd | .sub => iSub | .mul => fun a b => (vMulS a b).or (vMulL a b) | .div => iDiv | .mod => iMod | .pow => iPow
def co : CO → Va → Va → Option Va
  | .eq => vEq false | .ne => vEq true | .lt => fun a b => (iLt a b).or (vDLt a b) | .le => fun a b => (iLe a b).or (vDLtE a b) | .gt => fun a b => (iGt a b).or (vDGt a b) | .ge => fun a b => (iGe a b).or (vDGtE a b) | .is => vIsN false | .isnot => vIsN true | .in_ => vIn false | .notin => vIn true
def pr : P → List Va → Option Va
  | .len => one vLen | .int => fun ws => (one vInt ws).or (one vIntS ws) | .abs => one vAbs | .max => fun ws => ((two vMax2 ws).or (one vMaxL ws)).or ((two vMax2D ws).or (one vMaxD ws)) | .min => fun ws => (two vMin2 ws).or (one vMinL ws) | .sum => one vSum
  | .all => one vAll | .any => one vAny | .list => one vList | .tuple => one vTuple | .isinst => two vIsTy | .sorted => one vSort | .str => one vStrI | .ord => one vOrd | .intT => one vIntS
def tgB : Tg → Va → Evn → Option Evn
  | .one i => bName i
  | .many is => bTup is

/-- the four readings of a term -/
structure Sm where
  e : Evn → Store → Res Va := fun _ _ => .bad
  t : Evn → Store → Res Bool := fun _ _ => .bad
  a : Evn → Store → Res (List Va) := fun _ _ => .bad
  i : Evn → Store → Res (List Va) := fun _ _ => .bad
def fYes : Evn → Store → Res Bool := fun _ S => .ok true S
def fGlo (o : Option Va) : Evn → Store → Res Va := fun _ S => lift o S
def fFn {α : Type} (o : Option (List Va → Store → Res Va)) (g : (List Va → Store → Res Va) → Evn → Store → Res α) : Evn → Store → Res α := match o with
  | some f => g f
  | none => fun _ _ => .bad
def fKey (o : Option KeyS) (fa : Evn → Store → Res Va) : Evn → Store → Res Va := match o with
  | some ks => fSK ks fa
  | none => fun _ _ => .bad
def fIsG (b : Bool) (ts : List String) (fa : Evn → Store → Res Va) : Evn → Store → Res Va := if b = true then fIsTs ts fa else fun _ _ => .bad
def sRaiG (b : Bool) (c : String) (fe : Evn → Store → Res Va) : Evn → Store → RS := if b = true then sRaiI c fe else fun _ _ => .bad
def mkE (f : Evn → Store → Res Va) : Sm := { e := f, t := fTru f, i := fIt f }
def ev (γ : Ga) : E → Sm
  | .con w => mkE (fCon w)
  | .var i => mkE (fVar i)
  | .glo x => mkE (fGlo (γ.glo x))
  | .bin o a b => mkE (f2 (b2 o) (ev γ a).e (ev γ b).e)
  | .cmp o a b => mkE (f2 (co o) (ev γ a).e (ev γ b).e)
  | .chain o o' a b c => mkE (fChain (co o) (co o') (ev γ a).e (ev γ b).e (ev γ c).e)
  | .neg a => mkE (f1 vNeg (ev γ a).e)
  | .ix a b => mkE (f2 vIx (ev γ a).e (ev γ b).e)
  | .not a => { e := fNotV (ev γ a).e, t := fNot (ev γ a).t }
  | .and a b => { e := fAndV (ev γ a).e (ev γ b).e, t := fAnd (ev γ a).t (ev γ b).t }
  | .or a b => { e := fOrV (ev γ a).e (ev γ b).e, t := fOr (ev γ a).t (ev γ b).t }
  | .ife c a b => { e := fIf (ev γ c).t (ev γ a).e (ev γ b).e, i := fIt (fIf (ev γ c).t (ev γ a).e (ev γ b).e) }
  | .tup l => mkE (fTup (ev γ l).a)
  | .lst l => mkE (fLst (ev γ l).a)
  | .anil => { a := fNil }
  | .acons a r => { a := fCons (ev γ a).e (ev γ r).a }
  | .prim p l => mkE (fA (pr p) (ev γ l).a)
  | .call f l => mkE (fFn (γ.fn f) fun g => fCall g (ev γ l).a)
  | .meth c m o l => mkE (fFn (γ.meth c m) fun g => fMeth c m g (ev γ o).e (ev γ l).a)
  | .new c l => mkE (fFn (γ.init c) fun g => fNew c g (ev γ l).a)
  | .fld o f => mkE (fFld (ev γ o).e f)
  | .lc tg vs it t e => mkE (fLc (ev γ it).i (tgB tg) (ev γ t).t (ev γ e).e vs)
  | .yes => { t := fYes }
  | .itR l => { i := fRng (ev γ l).a }
  | .itV l => { i := fRev (ev γ l).a }
  | .lrg l => mkE (fLrg (ev γ l).a)
  | .isE l => mkE (fA (vIsE γ.sub γ.subT) (ev γ l).a)
  | .sl a lo hi => mkE (fSl (ev γ a).e (optI (isAbs lo) (ev γ lo).e) (optI (isAbs hi) (ev γ hi).e))
  | .olst l => mkE (fOl (ev γ l).a)
  | .ixS a b => mkE (f2S vIxS (ev γ a).e (ev γ b).e)
  | .eqS n a b => mkE (f2S (vEqS n) (ev γ a).e (ev γ b).e)
  | .ssort a => mkE (fSS (ev γ a).e)
  | .inT a b => mkE (f2 (vInD false) (ev γ a).e (ev γ b).e)
  | .call0 f => mkE (fFn (γ.fn f) fun g => fCall g fNil)
  | .orv a b => { e := fOrT (ev γ a).e (ev γ b).e }
  | .ch3 o o' o'' a b c d => mkE (fChain3 (co o) (co o') (co o'') (ev γ a).e (ev γ b).e (ev γ c).e (ev γ d).e)
  | .oIx i b => mkE (fOIx i (ev γ b).e)
  | .oLen i => mkE (fOLen i)
  | .oT i => { t := fOT i }
  | .sk f a => mkE (fKey (γ.key f) (ev γ a).e)
  | .tm m o a => mkE (fTm (tmV m) (ev γ o).e (ev γ a).e)
  | .tix y a => mkE (fTix (γ.glo y) (ev γ a).e)
  | .rj o a b => mkE (fPad (ev γ o).e (ev γ a).e (ev γ b).e)
  | .callV fs i l => mkE (fCallV γ.fn fs i (ev γ l).a)
  | .dnew => mkE fDnew
  | .dget a b => mkE (f2S vDGet (ev γ a).e (ev γ b).e)
  | .din n a b => mkE (f2S (vDIn n) (ev γ a).e (ev γ b).e)
  | .itD a => { e := (ev γ a).e, i := fKeys (ev γ a).e }
  | .itW a => { e := (ev γ a).e, i := fVals (ev γ a).e }
  | .dget1 o a => mkE (fDGet1 (ev γ o).e (ev γ a).e)
  | .dget2 o a b => mkE (fDGet2 (ev γ o).e (ev γ a).e (ev γ b).e)
  | .dpop o a => mkE (fDPop (ev γ o).e (ev γ a).e)
  | .dlen a => mkE (fDLen (ev γ a).e)
  | .dT a => { t := fDT (ev γ a).e }
  | .dsort a => mkE (fDSort (ev γ a).e)
  | .ddisp ks l => mkE (fDisp ks (ev γ l).a)
  | .lenS a => mkE (fLenS (ev γ a).e)
  | .tS a => { t := fTS (ev γ a).e }
  | .listS a => mkE (fListS (ev γ a).e)
  | .olc tg vs it t e => mkE (fOlc (fLc (ev γ it).i (tgB tg) (ev γ t).t (ev γ e).e vs))
  | .isTs ts a => mkE (fIsG (ts.all fun t => decide (γ.glo t = some (.ty t))) ts (ev γ a).e)
  | .spM o a b => mkE (fSpM (ev γ o).e (ev γ a).e (ev γ b).e)
  | .lix o a => mkE (fLix (ev γ o).e (ev γ a).e)
  | .lcnt o a => mkE (fLcnt (ev γ o).e (ev γ a).e)
def evK (γ : Ga) : Ks → Evn → Store → RS
  | .skip => sSkip
  | .seq a b => sSeq (evK γ a) (evK γ b)
  | .asg i e => sAsg i (ev γ e).e
  | .ownL i l => sOwnL i (ev γ l).a
  | .app i e => sApp i (ev γ e).e
  | .setO i k e => sSetO i (ev γ e).e (ev γ k).e
  | .asgT is e => sAsgT (bTup is) (ev γ e).e
  | .par i j l => sPar i j (ev γ l).a
  | .setF o f e => sFldA γ.fld (ev γ o).e (ev γ e).e f
  | .expr e => sExpr (ev γ e).e
  | .ife c a b => sIf (ev γ c).t (evK γ a) (evK γ b)
  | .whl c b => sWhile (ev γ c).t (evK γ b) γ.fuel
  | .for_ tg it b => sFor (ev γ it).i (tgB tg) (evK γ b)
  | .ret e => sRet (ev γ e).e
  | .retN => sRetN
  | .raise c => fun env S => .ex c none env S
  | .frz i k => sFrz i (evK γ k)
  | .kept t i j b => sKept γ.sub t i j (evK γ b)
  | .setS o k e => sSetS (ev γ o).e (ev γ k).e (ev γ e).e
  | .asgA i fs e => sFldT γ.fld (fVar i) (ev γ e).e fs
  | .ownC i e => sOwnC i (ev γ e).e
  | .tryN t j b => sTryN γ.sub t j (evK γ b)
  | .putD o k e => sPutD (ev γ o).e (ev γ k).e (ev γ e).e
  | .lk p k => sLk (ev γ p).e (evK γ k)
  | .frzS i k => sFrzS i (evK γ k)
  | .ownK i e => sOwnK i (ev γ e).e
  | .raiseI c e => sRaiG (γ.exi c) c (ev γ e).e
  | .tryW t i j b => sTryW γ.sub t i j (evK γ b)
  | .ext i e => sExt i (ev γ e).e

/-! ### trees -/
structure Sx where
  N : List Str
  names : List (Str × NameKind)
def plainN (x : Str) : Bool := !(x == ("__debug__" : Str)) && !(x == ("__classdict__" : Str)) && !(x == ("__name__" : Str))
def vis (s : Sx) (x : Str) : Bool := match s.names.lookup x with
  | some .local => true
  | some .cell => true
  | some .free => true
  | _ => false
def loc (s : Sx) (x : Str) : Bool := match s.names.lookup x with
  | some .local => true
  | some .cell => true
  | _ => false
def glb (s : Sx) (x : Str) : Bool := (match s.names.lookup x with
  | some .globalImplicit => true
  | _ => false) && plainN x
def slot (s : Sx) (i : Nat) (x : Str) : Bool := decide (s.N[i]? = some x) && plainN x
def relN (names : List (Str × NameKind)) (scope : Scope) : List (Str × NameKind) := scope.names.map fun (n, k) => if (k == .free && names.lookup n == some .cell) then (n, .cell) else (n, k)
def Sx.blk (s : Sx) (scope : Scope) : Sx := { N := s.N, names := relN s.names scope }
def isStar : Expr → Bool
  | .Starred .. => true
  | _ => false
def isOp : B2 → Operator → Bool
  | .add, .Add => true | .sub, .Sub => true | .mul, .Mult => true | .div, .FloorDiv => true | .mod, .Mod => true | .pow, .Pow => true
  | _, _ => false
def isCo : CO → CmpOp → Bool
  | .eq, .Eq => true | .ne, .NotEq => true | .lt, .Lt => true | .le, .LtE => true | .gt, .Gt => true | .ge, .GtE => true | .is, .Is => true | .isnot, .IsNot => true | .in_, .In => true | .notin, .NotIn => true
  | _, _ => false
def noSet : Expr → Bool
  | .Set .. => false
  | _ => true
def isSlice : Expr → Bool
  | .Slice .. => true
  | _ => false
/-- not, and, or, if, comparisons have readings of their own as tests -/
def plainT : Expr → Bool
  | .UnaryOp .Not _ _ => false
  | .BoolOp .. => false
  | .IfExp .. => false
  | .Compare .. => false
  | _ => true
def noLc : Expr → Bool
  | .ListComp .. => false
  | .SetComp .. => false
  | .DictComp .. => false
  | _ => true
def abOk : Expr → Bool
  | .Call (.Name _ _) [] [] _ => false
  | _ => true
def pname : P → String
  | .len => "len" | .int => "int" | .abs => "abs" | .max => "max" | .min => "min" | .sum => "sum" | .all => "all" | .any => "any" | .list => "list" | .tuple => "tuple" | .isinst => "isinstance" | .sorted => "sorted" | .str => "str" | .ord => "ord" | .intT => "int"
/-- how many arguments -/
def arity : E → Nat
  | .acons _ r => arity r + 1
  | _ => 0
def isConst (w : Va) : Const → Bool
  | .none => (match w with | .non => true | _ => false)
  | .bool b => (match w with | .bl c => b == c | _ => false)
  | .int i => (match w with | .int j => decide (i = j) | _ => false)
  | .str x => (match w with | .str l => decide (x = ⟨l.toArray⟩) | _ => false)
  | _ => false
def isNm (s : Sx) (i : Nat) : Expr → Bool
  | .Name x _ => slot s i x && loc s x
  | _ => false
def tgC (s : Sx) : Tg → Expr → Bool
  | .one i, .Name x _ => slot s i x && loc s x
  | .many is, .Tuple es _ _ => (is.length == es.length) && (is.zip es).all fun p => isNm s p.1 p.2
  | _, _ => false
def tgIs : Tg → List Nat
  | .one i => [i]
  | .many is => is
/-- a comprehension's own names and their slots -/
def ownOf (s : Sx) (vs : List Nat) : List (Str × Nat) := vs.filterMap fun i => (s.N[i]?).map fun x => (x, i)
def blkOk (s : Sx) (scope : Scope) (vs : List Nat) : Bool := ((ownOf s vs).map (·.2) == vs) && blkC s.N { kind := .function, names := s.names, isGenerator := false, isCoroutine := false } scope (ownOf s vs)
def ownLoc (s : Sx) (scope : Scope) (tg : Tg) : Bool := (tgIs tg).all fun j => match s.N[j]? with
  | some y => decide ((relN s.names scope).lookup y = some .local) || decide (scope.names.lookup y = some .cell)
  | none => false
def isYes : E → Bool
  | .yes => true
  | _ => false
def ifsOk (y : Bool) (f : Expr → Bool) : List Expr → Bool
  | [] => y
  | [c] => !y && f c
  | _ => false
structure Ck where
  e : Expr → Bool := fun _ => false
  t : Expr → Bool := fun _ => false
  a : List Expr → Bool := fun _ => false
  i : Expr → Bool := fun _ => false
def mkC (f : Expr → Bool) : Ck := { e := f, t := fun e => f e && plainT e, i := fun e => f e && noSet e }
/-- a chain of and, or: the rest of it -/
def restE (op : BoolOp) (f : Expr → Bool) (y : Expr) (rest : List Expr) (pos : Pos) : Bool := match rest with
  | [] => f y
  | _ => f (.BoolOp op (y :: rest) pos)
structure Cg where
  glo : List String
  free : List String
  fn : List String
  init : List String
  exc : List String
  cls : List String
  tup : List String := []
  wrd : List String := []
def optC : Bool → (Expr → Bool) → Option Expr → Bool
  | true, _, none => true
  | false, f, some e => f e
  | _, _, _ => false
/-- the names of types -/
def tysC (s : Sx) (g : Cg) : List String → List Expr → Bool
  | [], [] => true
  | t :: ts, .Name z _ :: es => decide (z = Str.ofString t) && glb s z && g.glo.contains t && tysC s g ts es
  | _, _ => false
def chk (g : Cg) : E → Sx → Ck
  | .con w, _ => mkC fun e => match e with
    | .Constant c _ _ => isConst w c
    | _ => false
  | .var i, s => mkC fun e => match e with
    | .Name x _ => slot s i x && vis s x
    | _ => false
  | .glo y, s => mkC fun e => match e with
    | .Name x _ => decide (x = Str.ofString y) && glb s x && g.glo.contains y
    | _ => false
  | .bin o a b, s => mkC fun e => match e with
    | .BinOp x op y _ => isOp o op && (chk g a s).e x && (chk g b s).e y
    | _ => false
  | .cmp o a b, s =>
    let f : Expr → Bool := fun e => match e with
      | .Compare x [op] [y] _ => isCo o op && noSet y && (chk g a s).e x && (chk g b s).e y
      | _ => false
    { e := f, t := f }
  | .chain o o' a b c, s =>
    let f : Expr → Bool := fun e => match e with
      | .Compare x [op, op'] [y, z] _ => isCo o op && isCo o' op' && noSet z && (chk g a s).e x && (chk g b s).e y && (chk g c s).e z
      | _ => false
    { e := f, t := f }
  | .neg a, s => mkC fun e => match e with
    | .UnaryOp .USub x _ => (chk g a s).e x
    | _ => false
  | .ix a b, s => mkC fun e => match e with
    | .Subscript x y _ => !isSlice y && (chk g a s).e x && (chk g b s).e y
    | _ => false
  | .not a, s =>
    { e := fun e => match e with
        | .UnaryOp .Not x _ => (chk g a s).e x
        | _ => false,
      t := fun e => match e with
        | .UnaryOp .Not x _ => (chk g a s).t x
        | _ => false }
  | .and a b, s =>
    { e := fun e => match e with
        | .BoolOp .And (x :: y :: rest) pos => (chk g a s).e x && restE .And (chk g b s).e y rest pos
        | _ => false,
      t := fun e => match e with
        | .BoolOp .And (x :: y :: rest) pos => (chk g a s).t x && restE .And (chk g b s).t y rest pos
        | _ => false }
  | .or a b, s =>
    { e := fun e => match e with
        | .BoolOp .Or (x :: y :: rest) pos => (chk g a s).e x && restE .Or (chk g b s).e y rest pos
        | _ => false,
      t := fun e => match e with
        | .BoolOp .Or (x :: y :: rest) pos => (chk g a s).t x && restE .Or (chk g b s).t y rest pos
        | _ => false }
  | .ife c a b, s =>
    let f : Expr → Bool := fun e => match e with
      | .IfExp z x y _ => (chk g c s).t z && (chk g a s).e x && (chk g b s).e y
      | _ => false
    { e := f, i := f }
  | .tup l, s => mkC fun e => match e with
    | .Tuple es _ _ => (chk g l s).a es
    | _ => false
  | .lst l, s => mkC fun e => match e with
    | .List es _ => (chk g l s).a es
    | _ => false
  | .anil, _ => { a := fun es => es.isEmpty }
  | .acons a r, s => { a := fun es => match es with
    | x :: es => !isStar x && (chk g a s).e x && (chk g r s).a es
    | [] => false }
  | .prim p l, s => mkC fun e => match e with
    | .Call (.Name x _) (y :: es) [] _ => decide (x = Str.ofString (pname p)) && glb s x && g.free.contains (pname p) && (chk g l s).a (y :: es)
    | _ => false
  | .call f l, s => mkC fun e => match e with
    | .Call (.Name x _) (y :: es) [] _ => decide (x = Str.ofString f) && glb s x && g.fn.contains f && (chk g l s).a (y :: es)
    | _ => false
  | .meth _ m o l, s => mkC fun e => match e with
    | .Call (.Attribute x n apos) es [] pos => decide (n = Str.ofString m) && abOk x && (apos.endLine == pos.line) && decide (es.length < 20) && (chk g o s).e x && (chk g l s).a es
    | _ => false
  | .new c l, s => mkC fun e => match e with
    | .Call (.Name x _) es [] _ => decide (x = Str.ofString c) && glb s x && g.init.contains c && (chk g l s).a es
    | _ => false
  | .fld o f, s => mkC fun e => match e with
    | .Attribute x n _ => decide (n = Str.ofString f) && abOk x && (chk g o s).e x
    | _ => false
  | .lc tg vs it t e, s => mkC fun x => match x with
    | .ListComp elt gens scope _ => (match gens with
      | [c] => decide (c.is_async = 0) && blkOk s scope vs && tgC (s.blk scope) tg c.target && (tgIs tg).all (fun j => vs.contains j) && ownLoc s scope tg && (chk g it s).i c.iter && noSet c.iter && (chk g e (s.blk scope)).e elt && ifsOk (isYes t) (chk g t (s.blk scope)).t c.ifs
      | _ => false)
    | _ => false
  | .yes, _ => {}
  | .itR l, s => { i := fun e => match e with
    | .Call (.Name x _) (y :: es) [] _ => decide (x = Str.ofString "range") && glb s x && g.free.contains "range" && (chk g l s).a (y :: es) && decide (arity l = es.length + 1) && decide (es.length ≤ 2)
    | _ => false }
  | .itV l, s => { i := fun e => match e with
    | .Call (.Name x _) [y] [] _ => decide (x = Str.ofString "reversed") && glb s x && g.free.contains "reversed" && (chk g l s).a [y]
    | _ => false }
  | .lrg l, s => mkC fun e => match e with
    | .Call (.Name y _) [.Call (.Name x _) [a, b, c] [] _] [] _ => decide (y = Str.ofString "list") && glb s y && g.free.contains "list" && decide (x = Str.ofString "range") && glb s x && g.free.contains "range" && (chk g l s).a [a, b, c]
    | _ => false
  | .isE l, s => mkC fun e => match e with
    | .Call (.Name x _) (y :: es) [] _ => decide (x = Str.ofString "isinstance") && glb s x && g.free.contains "isinstance" && (chk g l s).a (y :: es)
    | _ => false
  | .sl a lo hi, s => mkC fun e => match e with
    | .Subscript x (.Slice l h st _) _ => st.isNone && (chk g a s).e x && optC (isAbs lo) (chk g lo s).e l && optC (isAbs hi) (chk g hi s).e h
    | _ => false
  | .olst l, s => mkC fun e => match e with
    | .List es _ => (chk g l s).a es
    | _ => false
  | .ixS a b, s => mkC fun e => match e with
    | .Subscript x y _ => !isSlice y && (chk g a s).e x && (chk g b s).e y
    | _ => false
  | .eqS n a b, s =>
    let f : Expr → Bool := fun e => match e with
      | .Compare x [op] [y] _ => isCo (if n then .ne else .eq) op && noSet y && (chk g a s).e x && (chk g b s).e y
      | _ => false
    { e := f, t := f }
  | .ssort a, s => mkC fun e => match e with
    | .Call (.Name y _) [.Call (.Name x _) [z] [] _] [] _ => decide (y = Str.ofString "sorted") && glb s y && g.free.contains "sorted" && decide (x = Str.ofString "set") && glb s x && g.free.contains "set" && !isStar z && (chk g a s).e z
    | _ => false
  | .inT a b, s =>
    let f : Expr → Bool := fun e => match e with
      | .Compare x [op] [y] _ => isCo .in_ op && noSet y && (chk g a s).e x && (chk g b s).e y
      | _ => false
    { e := f, t := f }
  | .orv a b, s => { e := fun e => match e with
    | .BoolOp .Or [x, y] _ => (chk g a s).e x && (chk g b s).e y
    | _ => false }
  | .call0 f, s => mkC fun e => match e with
    | .Call (.Name x _) [] [] _ => decide (x = Str.ofString f) && glb s x && g.fn.contains f
    | _ => false
  | .ch3 o o' o'' a b c d, s =>
    let f : Expr → Bool := fun e => match e with
      | .Compare x [op, op', op''] [y, z, u] _ => isCo o op && isCo o' op' && isCo o'' op'' && noSet u && (chk g a s).e x && (chk g b s).e y && (chk g c s).e z && (chk g d s).e u
      | _ => false
    { e := f, t := f }
  | .oIx i b, s => mkC fun e => match e with
    | .Subscript (.Name x _) y _ => !isSlice y && slot s i x && vis s x && (chk g b s).e y
    | _ => false
  | .oLen i, s => mkC fun e => match e with
    | .Call (.Name y _) [.Name x _] [] _ => decide (y = Str.ofString "len") && glb s y && g.free.contains "len" && slot s i x && vis s x
    | _ => false
  | .oT i, s => { t := fun e => match e with
    | .Name x _ => slot s i x && vis s x
    | _ => false }
  | .sk f a, s => mkC fun e => match e with
    | .Call (.Name y _) [z] [⟨some k, .Name x _, _⟩] _ => decide (y = Str.ofString "sorted") && glb s y && g.free.contains "sorted" && decide (k = ("key" : Str)) && decide (x = Str.ofString f) && glb s x && !isStar z && (chk g a s).e z
    | _ => false
  | .tm m o a, s => mkC fun e => match e with
    | .Call (.Attribute x n apos) [y] [] pos => decide (n = Str.ofString m.name) && abOk x && (apos.endLine == pos.line) && !isStar y && (chk g o s).e x && (chk g a s).e y
    | _ => false
  | .tix y a, s => mkC fun e => match e with
    | .Call (.Attribute (.Name x _) n apos) [z] [] pos => decide (n = Str.ofString "index") && decide (x = Str.ofString y) && glb s x && g.glo.contains y && g.tup.contains y && (apos.endLine == pos.line) && !isStar z && (chk g a s).e z
    | _ => false
  | .rj o a b, s => mkC fun e => match e with
    | .Call (.Attribute x n apos) [y, z] [] pos => decide (n = Str.ofString "rjust") && abOk x && (apos.endLine == pos.line) && !isStar y && !isStar z && (chk g o s).e x && (chk g a s).e y && (chk g b s).e z
    | _ => false
  | .callV fs i l, s => mkC fun e => match e with
    | .Call (.Name x _) (y :: es) [] _ => slot s i x && vis s x && (fs.all fun f => g.fn.contains f) && (chk g l s).a (y :: es)
    | _ => false
  | .dnew, _ => mkC fun e => match e with
    | .Dict [] [] _ => true
    | _ => false
  | .dget a b, s => mkC fun e => match e with
    | .Subscript x y _ => !isSlice y && (chk g a s).e x && (chk g b s).e y
    | _ => false
  | .din n a b, s =>
    let f : Expr → Bool := fun e => match e with
      | .Compare x [op] [y] _ => isCo (if n then .notin else .in_) op && noSet y && (chk g a s).e x && (chk g b s).e y
      | _ => false
    { e := f, t := f }
  | .itD a, s => { i := fun e => (chk g a s).e e }
  | .itW a, s => { i := fun e => match e with
    | .Call (.Attribute x n apos) [] [] pos => decide (n = Str.ofString "values") && abOk x && (apos.endLine == pos.line) && (chk g a s).e x
    | _ => false }
  | .dget1 o a, s => mkC fun e => match e with
    | .Call (.Attribute x n apos) [y] [] pos => decide (n = Str.ofString "get") && abOk x && (apos.endLine == pos.line) && !isStar y && (chk g o s).e x && (chk g a s).e y
    | _ => false
  | .dget2 o a b, s => mkC fun e => match e with
    | .Call (.Attribute x n apos) [y, z] [] pos => decide (n = Str.ofString "get") && abOk x && (apos.endLine == pos.line) && !isStar y && !isStar z && (chk g o s).e x && (chk g a s).e y && (chk g b s).e z
    | _ => false
  | .dpop o a, s => mkC fun e => match e with
    | .Call (.Attribute x n apos) [y] [] pos => decide (n = Str.ofString "pop") && abOk x && (apos.endLine == pos.line) && !isStar y && (chk g o s).e x && (chk g a s).e y
    | _ => false
  | .dlen a, s => mkC fun e => match e with
    | .Call (.Name y _) [x] [] _ => decide (y = Str.ofString "len") && glb s y && g.free.contains "len" && !isStar x && (chk g a s).e x
    | _ => false
  | .dT a, s => { t := fun e => (chk g a s).e e && plainT e }
  | .dsort a, s => mkC fun e => match e with
    | .Call (.Name y _) [x] [] _ => decide (y = Str.ofString "sorted") && glb s y && g.free.contains "sorted" && !isStar x && (chk g a s).e x
    | _ => false
  | .ddisp ks l, s => mkC fun e => match e with
    | .Dict keys es _ => keysC ks keys && decide (es.length = keys.length) && decide (0 < ks.length) && decide (ks.length ≤ 15) && (chk g l s).a es
    | _ => false
  | .lenS a, s => mkC fun e => match e with
    | .Call (.Name y _) [x] [] _ => decide (y = Str.ofString "len") && glb s y && g.free.contains "len" && !isStar x && (chk g a s).e x
    | _ => false
  | .tS a, s => { t := fun e => (chk g a s).e e && plainT e }
  | .listS a, s => mkC fun e => match e with
    | .Call (.Name y _) [x] [] _ => decide (y = Str.ofString "list") && glb s y && g.free.contains "list" && !isStar x && (chk g a s).e x
    | _ => false
  | .olc tg vs it t e, s => mkC fun x => match x with
    | .ListComp elt gens scope _ => (match gens with
      | [c] => decide (c.is_async = 0) && blkOk s scope vs && tgC (s.blk scope) tg c.target && (tgIs tg).all (fun j => vs.contains j) && ownLoc s scope tg && (chk g it s).i c.iter && noSet c.iter && (chk g e (s.blk scope)).e elt && ifsOk (isYes t) (chk g t (s.blk scope)).t c.ifs
      | _ => false)
    | _ => false
  | .isTs ts a, s => mkC fun e => match e with
    | .Call (.Name x _) [y, .Tuple es _ _] [] _ => decide (x = Str.ofString "isinstance") && glb s x && g.free.contains "isinstance" && !isStar y && (chk g a s).e y && tysC s g ts es && decide (ts.length ≤ 1000)
    | _ => false
  | .spM o a b, s => mkC fun e => match e with
    | .Call (.Attribute x n apos) [y, z] [] pos => decide (n = Str.ofString "split") && abOk x && (apos.endLine == pos.line) && !isStar y && !isStar z && (chk g o s).e x && (chk g a s).e y && (chk g b s).e z
    | _ => false
  | .lix o a, s => mkC fun e => match e with
    | .Call (.Attribute x n apos) [y] [] pos => decide (n = Str.ofString "index") && abOk x && (apos.endLine == pos.line) && !isStar y && (chk g o s).e x && (chk g a s).e y
    | _ => false
  | .lcnt o a, s => mkC fun e => match e with
    | .Call (.Attribute x n apos) [y] [] pos => decide (n = Str.ofString "count") && abOk x && (apos.endLine == pos.line) && !isStar y && (chk g o s).e x && (chk g a s).e y
    | _ => false
end Mi
end
section
/-! Mi, part K: a tree that is a term does what the term means (expressions). -/
namespace Mi
open PySem PySem.Spec PyProof.Rows L2

/-- a def at level k -/
structure DefL (P : Program) (w : World) (K : PySem.W.Frag) (mg : Str → Option Value) (base : Heap) (k : Nat) (f : Addr) (n : Nat) (γf : List Va → Store → Res Va) : Prop where
  ex : ∃ (fd : FuncData) (ps : List Str), FnOk P w K mg base (L2.CX P w) k f fd ps (spOf K mg n γf) ∧ Binds K fd ps [] ∧ ps.length = n
  kp : PySem.W.keepIn K (.ref f) = true
  len : ∀ ws S, ws.length ≠ n → γf ws S = .bad
theorem DefL.ok {P : Program} {w : World} {K : PySem.W.Frag} {mg : Str → Option Value} {base : Heap} {k : Nat} {A : Around} {f : Addr} {n : Nat} {γf : List Va → Store → Res Va} (d : DefL P w K mg base k f n γf) (hr : Room (k + 1) A) : DefOk P w K mg base A f n γf := by
  obtain ⟨⟨fd, ps, G, hb, hn⟩, kp, hl⟩ := d
  exact ⟨⟨k, fd, ps, G, hr, hb, hn⟩, kp, hl⟩
/-- what the names of the text mean is what they are -/
structure Tab (γ : Ga) (g : Cg) (P : Program) (w : World) (K : PySem.W.Frag) (mg : Str → Option Value) (base : Heap) (k : Nat) : Prop where
  glo : ∀ x, x ∈ g.glo → ∃ wv v u, γ.glo x = some wv ∧ (mg (Str.ofString x) = some u ∨ (mg (Str.ofString x) = none ∧ bootBuiltins (Str.ofString x) = some u)) ∧ RelV v u ∧ ∀ R, RepV K mg R wv v
  free : ∀ x, x ∈ g.free → mg (Str.ofString x) = none
  fn : ∀ f, f ∈ g.fn → ∀ h, γ.fn f = some h → ∃ a n, mg (Str.ofString f) = some (.ref a) ∧ DefL P w K mg base k a n h
  meth : ∀ c m h, γ.meth c m = some h → ∃ C a n, mg (Str.ofString c) = some (.ref C) ∧ Cls K C ∧ Meth K C (Str.ofString m) a ∧ DefL P w K mg base k a n h
  init : ∀ c, c ∈ g.init → ∀ h, γ.init c = some h → ∃ C a n, mg (Str.ofString c) = some (.ref C) ∧ Cls K C ∧ Mk K C a ∧ DefL P w K mg base k a n h
  fld : ∀ c f C, γ.fld c f = true → mg (Str.ofString c) = some (.ref C) → NoAttr K C (Str.ofString f)
  exc : ∀ c, c ∈ g.exc → ∃ C, mg (Str.ofString c) = some (.ref C) ∧ PySem.W.excIn K C He.veBase "ValueError.__new__" = true ∧ PySem.W.keepIn K (.ref C) = true ∧ PySem.W.subIn K (.ref C) (.type "BaseException") = some true ∧ PySem.W.typeIn K (.ref C) = some (.type "type")
  cls : ∀ c, c ∈ g.cls → ∃ C, mg (Str.ofString c) = some (.ref C)
  sub : SubOk K mg γ.sub γ.subT
  key : ∀ f ks, γ.key f = some ks → ∃ a, mg (Str.ofString f) = some (.ref a) ∧ KeyFn K a ks
  exi : ∀ c, γ.exi c = true → ExW P w K mg base k c
  wrd : ∀ t, t ∈ g.wrd → ∃ T, mg (Str.ofString t) = some (.ref T) ∧ WordC K T
  tup : ∀ y, y ∈ g.tup → ∃ a ob, mg (Str.ofString y) = some (.ref a) ∧ K.lookup a = some ob ∧ ob.cls = .type "tuple" ∧ ob.dict = none
structure Good (γ : Ga) (g : Cg) (X : Cx) (s : Sx) (W : WX) (k : Nat) : Prop where
  N : X.N = s.N
  names : X.env.scope.names = s.names
  kind : X.env.scope.kind = .function
  nd : X.N.Nodup
  calm : X.calm = true
  takes : Takes X W
  tab : Tab γ g X.prog X.w X.K X.mg X.base k
  room : Room (k + 1) X.A

/-! ### facts of trees -/
theorem plainT_ok {e : Expr} (h : plainT e = true) (env : PySem.Env) : ∀ whole, isTrue e env whole = (do let v ← whole; standAt e.pos; holding [v] (truthy v)) := by
  intro whole
  cases e with
  | UnaryOp op x pos => cases op <;> first | rfl | (simp [plainT] at h)
  | BoolOp _ _ _ => simp [plainT] at h
  | IfExp _ _ _ _ => simp [plainT] at h
  | Compare _ _ _ _ => simp [plainT] at h
  | _ => rfl
theorem noSet_fold {e : Expr} (h : noSet e = true) (env : PySem.Env) : ∀ x, foldedSetIterable e env x = pure x := by
  intro x
  cases e with
  | Set _ _ _ => simp [noSet] at h
  | _ => rfl
theorem noSet_mark {e : Expr} (h : noSet e = true) (op : CmpOp) : behindInMarks op e = false := by
  cases e with
  | Set _ _ _ => simp [noSet] at h
  | _ => rfl
theorem star_cons {e : Expr} (h : isStar e = false) (es : List Expr) (env : PySem.Env) : starEach (e :: es) env = (false, eval e env) :: starEach es env := by
  cases e with
  | Starred _ _ => simp [isStar] at h
  | _ => rfl
theorem star_any : ∀ {es : List Expr}, es.all (fun e => !isStar e) = true → ∀ (p : Pos) (env : PySem.Env), (backTo p (starEach es env)).any (·.1) = false
  | [], _, p, env => rfl
  | e :: es, h, p, env => by
    simp only [List.all_cons, Bool.and_eq_true, Bool.not_eq_true'] at h
    have ih := star_any (es := es) h.2 p env
    rw [star_cons h.1]
    unfold backTo at ih ⊢
    rw [List.map_cons, List.any_cons, ih]
    rfl
theorem abOk_ok {o : Expr} (h : abOk o = true) (f : Str) (env : PySem.Env) (whole : Sem Value) : attributeBase o f env whole = whole := by
  unfold attributeBase
  split
  · simp [abOk] at h
  · rfl
theorem plainIx {b : Expr} (h : isSlice b = false) : PlainIx b := fun o i => by
  cases b with
  | Slice _ _ _ _ => simp [isSlice] at h
  | _ => rfl
theorem swaps_ok {e : Expr} (h : noLc e = true) (t : Option Expr) (l : Nat) (env : PySem.Env) : swapsWith e t l env = pure false := by
  cases e with
  | ListComp _ _ _ _ => simp [noLc] at h
  | SetComp _ _ _ _ => simp [noLc] at h
  | DictComp _ _ _ _ _ => simp [noLc] at h
  | _ => rfl
theorem meth_eval {o : Expr} {m : Str} {apos pos : Pos} {args : List Expr} {env : PySem.Env} (hb : abOk o = true) (hs : args.all (fun e => !isStar e) = true) (hl : args.length < 20) (hline : (apos.endLine == pos.line) = true) :
    eval (.Call (.Attribute o m apos) args [] pos) env = (do
      let ov ← eval o env
      standAt apos.atName
      let (f, first) ← holding [ov] (getMethod ov m (do return (← importBound o env).getD true))
      callWith pos f first (backTo pos (starEach args env)) (backToKw pos (keywordEach [] env))) := by
  show (do
    let ov ← attributeBase o m env (eval o env)
    standAt apos.atName
    methodCall o m apos pos env ov (args.length + ([] : List Keyword).length) (backTo pos (starEach args env)) (backToKw pos (keywordEach [] env))) = _
  rw [abOk_ok hb]
  have few : methodCallForm (args.length + ([] : List Keyword).length) (backTo pos (starEach args env)) (backToKw pos (keywordEach [] env)) = true := by
    unfold methodCallForm
    have h1 : (backTo pos (starEach args env)).all (fun x => !x.1) = true := by
      have := star_any hs pos env
      rw [List.any_eq_false] at this
      exact List.all_eq_true.mpr fun x hx => by simpa using this x hx
    rw [h1]
    simp [backToKw, keywordEach]
    omega
  unfold methodCall methodCallPos
  rw [few]
  simp only [calleeOf, if_true, Bool.not_true, Bool.false_or, hline, pure_bind]

/-! ### operators -/
section
variable {X : Cx}
theorem b2_ok {o : B2} {op : Operator} (h : isOp o op = true) : ∃ r, OpR X (binaryOp op) r ∧ Prim2 X r (b2 o) := by
  cases o <;> cases op <;> first | (simp [isOp] at h; done) | exact o_add | exact o_sub | exact (by obtain ⟨r1, a1, b1⟩ := o_mulS (X := X); obtain ⟨r2, a2, b2⟩ := o_mulL (X := X); exact ⟨_, a1.or a2, b1.or b2⟩) | exact o_div | exact o_mod | exact o_pow
theorem co_ok {o : CO} {op : CmpOp} (hu : X.A.units + 64 < cLine) (h : isCo o op = true) : ∃ r, OpR X (compareOp op) r ∧ Prim2 X r (co o) := by
  cases o <;> cases op <;> first | (simp [isCo] at h; done) | exact o_eq hu | exact o_ne hu | exact o_ltD hu | exact o_leD hu | exact o_gtD hu | exact o_geD hu | exact o_is | exact o_isnot | exact o_in | exact o_notin
theorem or_bl {a b : Option Va} {w : Va} (h : a.or b = some w) (h1 : ∀ w, a = some w → ∃ k, w = .bl k) (h2 : ∀ w, b = some w → ∃ k, w = .bl k) : ∃ k, w = .bl k := by
  cases a with
  | none => exact h2 w h
  | some u => exact h1 w h
theorem vEq_bl {n : Bool} {x y w : Va} (h : vEq n x y = some w) : ∃ k, w = .bl k := ⟨_, (vEq_of h).1⟩
theorem oInt_bl {c : Int → Int → Bool} {g : Int → Int → Bool} {x y w : Va} (h : oInt c (fun i j => .bl (g i j)) x y = some w) : ∃ k, w = .bl k := by
  obtain ⟨i, j, _, _, _, e⟩ := oInt_of h
  exact ⟨_, e⟩
theorem vIsN_bl {n : Bool} {x y w : Va} (h : vIsN n x y = some w) : ∃ k, w = .bl k := by
  cases y with
  | non => cases h; exact ⟨_, rfl⟩
  | _ => cases h
theorem vIn_bl {n : Bool} {x y w : Va} (h : vIn n x y = some w) : ∃ k, w = .bl k := by
  refine or_bl h (fun w h => ?_) fun w h => ?_
  · cases y with
    | lst l => exact ⟨_, (seqIn_of (show seqIn n x l = some w from h)).2.2⟩
    | tup l => exact ⟨_, (seqIn_of (show seqIn n x l = some w from h)).2.2⟩
    | _ => cases h
  · obtain ⟨c, l, _, _, e⟩ := vInT_of h
    exact ⟨_, e⟩
theorem co_bl (o : CO) : ∀ x y w, co o x y = some w → ∃ k, w = .bl k := fun x y w h => by
  cases o with
  | eq => exact vEq_bl h
  | ne => exact vEq_bl h
  | lt => exact or_bl h (fun _ h => oInt_bl h) fun _ h => vDLt_bl h
  | le => exact or_bl h (fun _ h => oInt_bl h) fun _ h => vDLtE_bl h
  | gt => exact or_bl h (fun _ h => oInt_bl h) fun _ h => vDGt_bl h
  | ge => exact or_bl h (fun _ h => oInt_bl h) fun _ h => vDGtE_bl h
  | is => exact vIsN_bl h
  | isnot => exact vIsN_bl h
  | in_ => exact vIn_bl h
  | notin => exact vIn_bl h
/-- a call of what is built in -/
theorem pr_ok (p : P) (hc : X.calm = true) (hu : X.A.units + 70 < cLine) : (∃ id r, bootBuiltins (Str.ofString (pname p)) = some (.builtin id) ∧ CallR X (.builtin id) r ∧ PrimA X r (pr p)) ∨ (∃ id r, bootBuiltins (Str.ofString (pname p)) = some (.type id) ∧ CallR X (.type id) r ∧ PrimA X r (pr p)) := by
  cases p with
  | len => obtain ⟨r, h1, h2⟩ := c_len (X := X); exact .inl ⟨_, r, by first | exact PyProof.Rows.boot_len | exact PySem.boot_len | decide +kernel, h1, h2⟩
  | int => obtain ⟨r, h1, h2⟩ := c_int (X := X); obtain ⟨r', h1', h2'⟩ := c_intS (X := X); exact .inr ⟨_, _, by first | exact PyProof.Rows.boot_int | exact PySem.boot_int | decide +kernel, h1.or h1', h2.or h2'⟩
  | abs => obtain ⟨r, h1, h2⟩ := c_abs (X := X); exact .inl ⟨_, r, by first | exact PyProof.Rows.boot_abs | exact PySem.boot_abs | decide +kernel, h1, h2⟩
  | max => obtain ⟨r, h1, h2⟩ := c_max (X := X) hc; obtain ⟨r', h1', h2'⟩ := c_max2D (X := X) hc hu; obtain ⟨r'', h1'', h2''⟩ := c_maxD (X := X) hc hu; exact .inl ⟨_, _, by first | exact PyProof.Rows.boot_max | exact PySem.boot_max | decide +kernel, h1.or (h1'.or h1''), h2.or (h2'.or h2'')⟩
  | min => obtain ⟨r, h1, h2⟩ := c_min (X := X) hc; exact .inl ⟨_, r, by first | exact PyProof.Rows.boot_min | exact PySem.boot_min | decide +kernel, h1, h2⟩
  | sum => obtain ⟨r, h1, h2⟩ := c_sum (X := X) hc; exact .inl ⟨_, r, by first | exact PyProof.Rows.boot_sum | exact PySem.boot_sum | decide +kernel, h1, h2⟩
  | all => obtain ⟨r, h1, h2⟩ := c_all (X := X) hc; exact .inl ⟨_, r, by first | exact PyProof.Rows.boot_all | exact PySem.boot_all | decide +kernel, h1, h2⟩
  | any => obtain ⟨r, h1, h2⟩ := c_any (X := X) hc; exact .inl ⟨_, r, by first | exact PyProof.Rows.boot_any | exact PySem.boot_any | decide +kernel, h1, h2⟩
  | list => obtain ⟨r, h1, h2⟩ := c_list (X := X); exact .inr ⟨_, r, by first | exact PyProof.Rows.boot_list | exact PySem.boot_list | decide +kernel, h1, h2⟩
  | tuple => obtain ⟨r, h1, h2⟩ := c_tuple (X := X); exact .inr ⟨_, r, by first | exact PyProof.Rows.boot_tuple | exact PySem.boot_tuple | decide +kernel, h1, h2⟩
  | isinst => obtain ⟨r, h1, h2⟩ := c_isTy (X := X); exact .inl ⟨_, r, by first | exact PyProof.Rows.boot_isinstance | exact PySem.boot_isinstance | decide +kernel, h1, h2⟩
  | sorted => obtain ⟨r, h1, h2⟩ := c_sort (X := X) hu; exact .inl ⟨_, r, by first | exact PyProof.Rows.boot_sorted | exact PySem.boot_sorted | decide +kernel, h1, h2⟩
  | str => obtain ⟨r, h1, h2⟩ := c_str (X := X); exact .inr ⟨_, r, by decide +kernel, h1, h2⟩
  | intT => obtain ⟨r, h1, h2⟩ := c_intS (X := X); exact .inr ⟨_, r, by first | exact PyProof.Rows.boot_int | exact PySem.boot_int | decide +kernel, h1, h2⟩
  | ord => obtain ⟨r, h1, h2⟩ := c_ord (X := X); exact .inl ⟨_, r, by decide +kernel, h1, h2⟩
end
/-! ### names -/
theorem plainN_ok {x : Str} (h : plainN x = true) : (x == ("__debug__" : Str)) = false ∧ (x == ("__classdict__" : Str)) = false ∧ x ≠ ("__name__" : Str) := by
  unfold plainN at h
  simp only [Bool.and_eq_true, Bool.not_eq_true'] at h
  exact ⟨h.1.1, h.1.2, fun z => by rw [z] at h; exact absurd h.2 (by decide)⟩
section
variable {γ : Ga} {g : Cg} {X : Cx} {s : Sx} {W : WX} {k : Nat}
theorem Good.vis (G : Good γ g X s W k) {x : Str} (h : Mi.vis s x = true) : Vis X.env.scope x := by
  unfold Vis
  rw [G.names]
  unfold Mi.vis at h
  split at h
  · rename_i e; exact .inl e
  · rename_i e; exact .inr (.inl e)
  · rename_i e; exact .inr (.inr e)
  · cases h
theorem Good.loc (G : Good γ g X s W k) {x : Str} (h : Mi.loc s x = true) : L2.Loc X.env.scope x := by
  unfold L2.Loc
  rw [G.names]
  unfold Mi.loc at h
  split at h
  · rename_i e; exact .inl e
  · rename_i e; exact .inr e
  · cases h
theorem Good.gl (G : Good γ g X s W k) {x : Str} (h : glb s x = true) : Gl X x ∧ plainN x = true := by
  unfold glb at h
  rw [Bool.and_eq_true] at h
  refine ⟨?_, h.2⟩
  show X.env.scope.names.lookup x = some .globalImplicit
  rw [G.names]
  have h1 := h.1
  split at h1
  · assumption
  · cases h1
theorem Good.slot (G : Good γ g X s W k) {i : Nat} {x : Str} (h : Mi.slot s i x = true) : X.N[i]? = some x ∧ plainN x = true := by
  unfold Mi.slot at h
  rw [Bool.and_eq_true] at h
  rw [G.N]
  exact ⟨of_decide_eq_true h.1, h.2⟩
theorem Good.hu (G : Good γ g X s W k) : X.A.units + 64 < cLine := G.room.units
theorem Good.hu70 (G : Good γ g X s W k) : X.A.units + 70 < cLine := by
  have := G.room.un
  omega
theorem Good.dp5 (G : Good γ g X s W k) : X.A.depth + 5 < recursionLimit := by
  have := G.room.dp
  omega
theorem Good.hu5 (G : Good γ g X s W k) : X.A.units + 65 < cLine := by
  have := G.room.un
  omega
end
theorem arity_len (γ : Ga) : ∀ (l : E) (env : Evn) (S : Store) (ws : List Va) (S' : Store), (ev γ l).a env S = .ok ws S' → ws.length = arity l := by
  intro l
  induction l with
  | anil =>
    intro env S ws S' h
    cases h
    rfl
  | acons a r _ ih =>
    intro env S ws S' h
    have h : ((ev γ a).e env S).bind (fun w S1 => ((ev γ r).a env S1).bind fun ws S2 => .ok (w :: ws) S2) = .ok ws S' := h
    cases q : (ev γ a).e env S with
    | ok w S1 =>
      rw [q] at h
      have h : ((ev γ r).a env S1).bind (fun ws S2 => .ok (w :: ws) S2) = .ok ws S' := h
      cases q2 : (ev γ r).a env S1 with
      | ok us S2 =>
        rw [q2] at h
        cases h
        show us.length + 1 = arity r + 1
        rw [ih env S1 us S' q2]
      | ex c a S2 => rw [q2] at h; cases h
      | bad => rw [q2] at h; cases h
    | ex c a S1 => rw [q] at h; cases h
    | bad => rw [q] at h; cases h
  | _ => intro env S ws S' h; cases h
theorem chk_stars (g : Cg) : ∀ (l : E) (s : Sx) (es : List Expr), (chk g l s).a es = true → es.all (fun e => !isStar e) = true := by
  intro l
  induction l with
  | anil =>
    intro s es h
    cases es with
    | nil => rfl
    | cons _ _ => cases h
  | acons a r _ ih =>
    intro s es h
    cases es with
    | nil => cases h
    | cons x es =>
      have h : (!isStar x && (chk g a s).e x && (chk g r s).a es) = true := h
      simp only [Bool.and_eq_true] at h
      rw [List.all_cons, Bool.and_eq_true]
      exact ⟨h.1.1, ih s es h.2⟩
  | _ => intro s es h; cases h

section
variable {γ : Ga} {g : Cg} {X : Cx} {s : Sx} {W : WX} {k : Nat} {R0 : RC} {H0 : Hp}
theorem star0 {e : Expr} (h : isStar0 e = false) : isStar e = false := by
  cases e with
  | Starred _ _ => cases h
  | _ => rfl
theorem star1 {e : Expr} (h : isStar e = false) : isStar0 e = false := by
  cases e with
  | Starred _ _ => cases h
  | _ => rfl
theorem EachL.oa {es : List Expr} {fr : Evn → Store → Res (List Va)} (h : EachL X R0 H0 W es fr) : OA X R0 H0 W es fr := by
  induction h with
  | nil => exact a_nil
  | cons h1 h2 _ ih => exact a_cons h2 ih (star_cons (star0 h1) _ _)
/-- what is shown of a term -/
structure Ok (γ : Ga) (g : Cg) (c : E) (X : Cx) (s : Sx) (W : WX) (R0 : RC) (H0 : Hp) : Prop where
  e : ∀ e, (chk g c s).e e = true → OE X R0 H0 W e (ev γ c).e
  t : ∀ e, (chk g c s).t e = true → OT X R0 H0 W e (ev γ c).t
  w : ∀ op es pos, (chk g c s).t (.BoolOp op es pos) = true → OW X R0 H0 W (.BoolOp op es pos) (ev γ c).t
  al : ∀ es, (chk g c s).a es = true → EachL X R0 H0 W es (ev γ c).a
  i : ∀ tg e, (chk g c s).i e = true → ∃ wi, PI X tg e wi ∧ IterOk X R0 H0 W wi (ev γ c).i
theorem Ok.a {c : E} (h : Ok γ g c X s W R0 H0) (es : List Expr) (q : (chk g c s).a es = true) : OA X R0 H0 W es (ev γ c).a := (h.al es q).oa
theorem Ok.mk' {c : E} {f : Expr → Bool} {F : Evn → Store → Res Va} (hc : chk g c s = mkC f) (hs : ev γ c = mkE F) (h : ∀ e, f e = true → OE X R0 H0 W e F) : Ok γ g c X s W R0 H0 := by
  refine ⟨fun e he => ?_, fun e he => ?_, fun op es pos he => ?_, fun es he => ?_, fun tg e he => ?_⟩
  · rw [hc] at he
    rw [hs]
    exact h e he
  · rw [hc] at he
    rw [hs]
    have he : (f e && plainT e) = true := he
    rw [Bool.and_eq_true] at he
    exact t_truth (h e he.1) (plainT_ok he.2 _)
  · rw [hc] at he
    have he : (f (.BoolOp op es pos) && plainT (.BoolOp op es pos)) = true := he
    rw [Bool.and_eq_true] at he
    cases he.2
  · rw [hc] at he
    cases he
  · rw [hc] at he
    rw [hs]
    have he : (f e && noSet e) = true := he
    rw [Bool.and_eq_true] at he
    exact ⟨_, pi_any (h e he.1), it_any⟩
theorem fFn_some {α : Type} {o : Option (List Va → Store → Res Va)} {G : (List Va → Store → Res Va) → Evn → Store → Res α} {h : List Va → Store → Res Va} (e : o = some h) : fFn o G = G h := by rw [e] <;> rfl
theorem fFn_none {α : Type} {o : Option (List Va → Store → Res Va)} {G : (List Va → Store → Res Va) → Evn → Store → Res α} (e : o = none) : fFn o G = fun _ _ => .bad := by rw [e] <;> rfl
theorem e_bad {e : Expr} : OE X R0 H0 W e (fun _ _ => .bad) := ⟨fun pins s σ H Q I h => by
  obtain ⟨R, S, env, A, h⟩ := h
  exact h.elim⟩
theorem op_cases {o : Option (List Va → Store → Res Va)} : o = none ∨ ∃ h, o = some h := by
  cases o with
  | none => exact .inl rfl
  | some h => exact .inr ⟨h, rfl⟩
theorem isConst_ok {w : Va} {c : Const} {j : Nat} {pos : Pos} (h : isConst w c = true) : OE X R0 H0 W (.Constant c j pos) (fCon w) := by
  cases c with
  | none => cases w <;> first | exact e_non | (cases h)
  | bool b =>
    cases w with
    | bl c =>
      have e : b = c := by simpa [isConst] using h
      subst e
      exact e_bl
    | _ => cases h
  | int i =>
    cases w with
    | int j =>
      have e : i = j := of_decide_eq_true h
      subst e
      exact e_int
    | _ => cases h
  | str x =>
    cases w with
    | str l =>
      have e : x = ⟨l.toArray⟩ := of_decide_eq_true h
      subst e
      exact e_str
    | _ => cases h
  | _ => cases h
/-- targets, in a def or in a comprehension -/
theorem names_ok (hN : X.N = s.N) (hnd : X.N.Nodup) (hl : ∀ x, Mi.loc s x = true → L2.Loc X.env.scope x) :
    ∀ (is : List Nat) (es : List Expr), (∀ i x, i ∈ is → slot s i x = true → Mi.loc s x = true → X.fn x = true ∨ X.env.scope.names.lookup x = some .local) → (is.length == es.length) = true → ((is.zip es).all fun p => isNm s p.1 p.2) = true → PGs X es (gNames is)
  | [], [], _, _, _ => pgs_nil
  | [], _ :: _, _, h, _ => by cases h
  | _ :: _, [], _, h, _ => by cases h
  | i :: is, e :: es, hf, h, h2 => by
    have h2 : (isNm s i e && ((is.zip es).all fun p => isNm s p.1 p.2)) = true := h2
    rw [Bool.and_eq_true] at h2
    cases e with
    | Name x pos =>
      have h3 : (slot s i x && Mi.loc s x) = true := h2.1
      rw [Bool.and_eq_true] at h3
      have hs : X.N[i]? = some x := by
        have := h3.1
        unfold slot at this
        rw [Bool.and_eq_true] at this
        rw [hN]
        exact of_decide_eq_true this.1
      exact pgs_cons (pg_name hnd hs (hl x h3.2) (hf i x List.mem_cons_self h3.1 h3.2)) (names_ok hN hnd hl is es (fun j y hj => hf j y (List.mem_cons_of_mem _ hj)) (by simpa using h) h2.2) rfl
    | _ => cases h2.1
theorem assignEach_plain {s : Sx} {env : PySem.Env} : ∀ (is : List Nat) (es : List Expr), (is.length == es.length) = true → ((is.zip es).all fun p => isNm s p.1 p.2) = true → (assignEach es env).length = is.length ∧ (assignEach es env).findIdx? (·.1) = none
  | [], [], _, _ => ⟨rfl, rfl⟩
  | [], _ :: _, h, _ => by cases h
  | _ :: _, [], h, _ => by cases h
  | i :: is, e :: es, h, h2 => by
    have h2 : (isNm s i e && ((is.zip es).all fun p => isNm s p.1 p.2)) = true := h2
    rw [Bool.and_eq_true] at h2
    cases e with
    | Name x pos =>
      obtain ⟨h3, h4⟩ := assignEach_plain (s := s) (env := env) is es (by simpa using h) h2.2
      have e : assignEach (.Name x pos :: es) env = (false, assign (.Name x pos) env) :: assignEach es env := rfl
      rw [e]
      refine ⟨by rw [List.length_cons, h3, List.length_cons], ?_⟩
      rw [List.findIdx?_cons, h4]
      rfl
    | _ => cases h2.1
def tgG (K : PySem.W.Frag) : Tg → TG
  | .one i => gName i
  | .many is => gTup K is.length (gNames is)
theorem tg_ok (hN : X.N = s.N) (hnd : X.N.Nodup) (hc : X.calm = true) (hl : ∀ x, Mi.loc s x = true → L2.Loc X.env.scope x) {tg : Tg} {e : Expr} (hf : ∀ i x, i ∈ tgIs tg → slot s i x = true → Mi.loc s x = true → X.fn x = true ∨ X.env.scope.names.lookup x = some .local) (h : tgC s tg e = true) : PG X e (tgG X.K tg) := by
  cases tg with
  | one i =>
    cases e with
    | Name x pos =>
      have h3 : (slot s i x && Mi.loc s x) = true := h
      rw [Bool.and_eq_true] at h3
      have hs : X.N[i]? = some x := by
        have := h3.1
        unfold slot at this
        rw [Bool.and_eq_true] at this
        rw [hN]
        exact of_decide_eq_true this.1
      exact pg_name hnd hs (hl x h3.2) (hf i x List.mem_cons_self h3.1 h3.2)
    | _ => cases h
  | many is =>
    cases e with
    | Tuple es k pos =>
      have h : ((is.length == es.length) && ((is.zip es).all fun p => isNm s p.1 p.2)) = true := h
      rw [Bool.and_eq_true] at h
      obtain ⟨h1, h2⟩ := assignEach_plain (env := X.env) is es h.1 h.2
      exact pg_tup hc (names_ok hN hnd hl is es hf h.1 h.2) h1 h2
    | _ => cases h
theorem tg_read (tg : Tg) : TgtS X R0 H0 (tgG X.K tg) (tgB tg) (tgIs tg) := by
  cases tg with
  | one i => exact g_name i
  | many is => exact g_tup is
end
end Mi
end
section
/-! Mi, part L: the theorem of expressions. -/
namespace Mi
open PySem PySem.Spec PyProof.Rows L2
section
variable {γ : Ga} {g : Cg} {R0 : RC} {H0 : Hp}
theorem relS_names {scope sc : Scope} (h : sc.kind = .function) : (relS scope sc).names = relN sc.names scope := by
  unfold relS relN
  simp only
  refine List.map_congr_left fun p _ => ?_
  obtain ⟨n, q⟩ := p
  simp only [h, show (ScopeKind.function == ScopeKind.function) = true from rfl, Bool.and_true]
/-- in a comprehension's block -/
theorem Good.blk {X : Cx} {s : Sx} {W : WX} {k : Nat} (G : Good γ g X s W k) {sh : Shared} {H : Hp} {scope : Scope} {C : Addr} {cl : List (Str × Addr)} {fp : List Addr} (hk : scope.kind = .function) : Good γ g (X.blk sh H scope (compEnvC scope cl C X.env) fp) (s.blk scope) WF k := by
  refine ⟨G.N, ?_, ?_, G.nd, G.calm, takes0, G.tab, G.room⟩
  · show (relS scope X.env.scope).names = relN s.names scope
    rw [relS_names G.kind, G.names]
  · show (relS scope X.env.scope).kind = .function
    exact hk
theorem restE_ok {f : Expr → Bool} {y : Expr} {rest : List Expr} {pos : Pos} {op : BoolOp} (h : restE op f y rest pos = true) : (rest = [] ∧ f y = true) ∨ (f (.BoolOp op (y :: rest) pos) = true) := by
  cases rest with
  | nil => exact .inl ⟨rfl, h⟩
  | cons _ _ => exact .inr h
/-- the parts of a comprehension -/
theorem lc_parts {tg : Tg} {vs : List Nat} {it t e : E} (ihit : ∀ (X : Cx) (s : Sx) (W : WX) (k : Nat), Good γ g X s W k → Ok γ g it X s W R0 H0) (iht : ∀ (X : Cx) (s : Sx) (W : WX) (k : Nat), Good γ g X s W k → Ok γ g t X s W R0 H0)
    (ihe : ∀ (X : Cx) (s : Sx) (W : WX) (k : Nat), Good γ g X s W k → Ok γ g e X s W R0 H0) {X : Cx} {s : Sx} {W : WX} {k : Nat} (G : Good γ g X s W k) {elt : Expr} {gens : List Comprehension} {scope : Scope} {pos : Pos} (h : (chk g (.lc tg vs it t e) s).e (.ListComp elt gens scope pos) = true) :
    ∃ (target iter : Expr) (ifs : List Expr) (wi : TI), gens = [⟨target, iter, ifs, 0⟩] ∧ (ownOf s vs).map (·.2) = vs ∧ PI X target iter wi ∧ IterOk X R0 H0 W wi (ev γ it).i ∧ BlkOk X.N X.env.scope scope (ownOf s vs) ∧
      (∀ (sh : Shared) (H : Hp) (C : Addr) (cl : List (Str × Addr)) (fp : List Addr), PG (X.blk sh H scope (compEnvC scope cl C X.env) fp) target (tgG X.K tg)) ∧
      (∀ (sh : Shared) (H : Hp) (C : Addr) (cl : List (Str × Addr)) (fp : List Addr), PTs (X.blk sh H scope (compEnvC scope cl C X.env) fp) ifs (tG X.K X.mg R0 H0 WF repB (ev γ t).t)) ∧
      (∀ (sh : Shared) (H : Hp) (C : Addr) (cl : List (Str × Addr)) (fp : List Addr), PE (X.blk sh H scope (compEnvC scope cl C X.env) fp) elt (tG X.K X.mg R0 H0 WF (repV X.K X.mg) (ev γ e).e)) ∧ noSet iter = true ∧ ∀ j ∈ tgIs tg, j ∈ vs := by
  match gens, h with
  | [⟨target, iter, ifs, as⟩], h =>
    have h : (decide (as = 0) && blkOk s scope vs && tgC (s.blk scope) tg target && (tgIs tg).all (fun j => vs.contains j) && ownLoc s scope tg && (chk g it s).i iter && noSet iter && (chk g e (s.blk scope)).e elt && ifsOk (isYes t) (chk g t (s.blk scope)).t ifs) = true := h
    simp only [Bool.and_eq_true] at h
    obtain ⟨⟨⟨⟨⟨⟨⟨⟨h0, h1⟩, h2⟩, h3⟩, h4⟩, h5⟩, h6⟩, h7⟩, h8⟩ := h
    have h0 : as = 0 := of_decide_eq_true h0
    subst h0
    unfold blkOk at h1
    rw [Bool.and_eq_true] at h1
    have hvs : (ownOf s vs).map (·.2) = vs := by simpa using h1.1
    have hblk : BlkOk X.N X.env.scope scope (ownOf s vs) := by
      have q := blkOk_by h1.2
      refine ⟨q.kind, q.uniq, ?_, ?_, ?_⟩
      · rw [G.N]; exact q.ix
      · rw [G.names]; exact q.free
      · rw [G.N]; exact q.own
    obtain ⟨wi, hpi, hit⟩ := (ihit X s W k G).i target iter h5
    have hvs' : ∀ j ∈ tgIs tg, j ∈ vs := fun j hj => by
      have := List.all_eq_true.mp h3 j hj
      simpa using this
    have gB : ∀ (sh : Shared) (H : Hp) (C : Addr) (cl : List (Str × Addr)) (fp : List Addr), Good γ g (X.blk sh H scope (compEnvC scope cl C X.env) fp) (s.blk scope) WF k := fun sh H C cl fp => G.blk hblk.kind
    have hg : ∀ (sh : Shared) (H : Hp) (C : Addr) (cl : List (Str × Addr)) (fp : List Addr), PG (X.blk sh H scope (compEnvC scope cl C X.env) fp) target (tgG X.K tg) := fun sh H C cl fp => by
      have GB := gB sh H C cl fp
      refine tg_ok (X := X.blk sh H scope (compEnvC scope cl C X.env) fp) GB.N GB.nd GB.calm (fun x hx => GB.loc hx) (fun i x hi hs hx => ?_) h2
      have h4' := List.all_eq_true.mp h4 i hi
      unfold slot at hs
      rw [Bool.and_eq_true] at hs
      have hs1 : s.N[i]? = some x := of_decide_eq_true hs.1
      rw [hs1] at h4'
      have h4' : (decide ((relN s.names scope).lookup x = some .local) || decide (scope.names.lookup x = some .cell)) = true := h4'
      rw [Bool.or_eq_true] at h4'
      rcases h4' with h4' | h4'
      · refine .inr ?_
        rw [GB.names]
        exact of_decide_eq_true h4'
      · refine .inl ?_
        show (scope.names.lookup x == some .cell) = true
        rw [of_decide_eq_true h4']
        rfl
    have ht : ∀ (sh : Shared) (H : Hp) (C : Addr) (cl : List (Str × Addr)) (fp : List Addr), PTs (X.blk sh H scope (compEnvC scope cl C X.env) fp) ifs (tG X.K X.mg R0 H0 WF repB (ev γ t).t) := fun sh H C cl fp => by
      match ifs, h8 with
      | [], h8 =>
        have h8 : isYes t = true := h8
        cases t with
        | yes => exact ⟨fun pins s σ H Q I hw => pts_nil.run pins s σ H Q I (by
            obtain ⟨R, S, env, A, hw⟩ := hw
            exact hw R H true A Ext.refl rfl)⟩
        | _ => cases h8
      | [c], h8 =>
        have h8 : (!isYes t && (chk g t (s.blk scope)).t c) = true := h8
        rw [Bool.and_eq_true] at h8
        exact pts_one ((iht _ _ WF k (gB sh H C cl fp)).t c h8.2)
      | _ :: _ :: _, h8 => cases h8
    have hel : ∀ (sh : Shared) (H : Hp) (C : Addr) (cl : List (Str × Addr)) (fp : List Addr), PE (X.blk sh H scope (compEnvC scope cl C X.env) fp) elt (tG X.K X.mg R0 H0 WF (repV X.K X.mg) (ev γ e).e) := fun sh H C cl fp => (ihe _ _ WF k (gB sh H C cl fp)).e elt h7
    exact ⟨target, iter, ifs, wi, rfl, hvs, hpi, hit, hblk, hg, ht, hel, h6, hvs'⟩
  | [], h => cases h
  | _ :: _ :: _, h => cases h
theorem tys_ok {X : Cx} {s : Sx} {W : WX} {k : Nat} (G : Good γ g X s W k) : ∀ {ts : List String} {es : List Expr}, tysC s g ts es = true → (ts.all fun t => decide (γ.glo t = some (.ty t))) = true → es.length = ts.length ∧ ∀ i (h : i < es.length) (h' : i < ts.length), PE X es[i] (tC (.ty ts[i])) ∧ isStar0 es[i] = false
  | [], [], _, _ => ⟨rfl, fun i h _ => absurd h (Nat.not_lt_zero i)⟩
  | [], _ :: _, h, _ => by cases h
  | _ :: _, [], h, _ => by cases h
  | t :: ts, e :: es, h, q => by
    cases e with
    | Name z pz =>
      have h : (decide (z = Str.ofString t) && glb s z && g.glo.contains t && tysC s g ts es) = true := h
      simp only [Bool.and_eq_true, List.contains_iff_mem, decide_eq_true_eq] at h
      obtain ⟨⟨⟨h1, h2⟩, h3⟩, h4⟩ := h
      subst h1
      rw [List.all_cons, Bool.and_eq_true, decide_eq_true_eq] at q
      obtain ⟨r1, r2⟩ := tys_ok G h4 q.2
      refine ⟨by rw [List.length_cons, List.length_cons, r1], fun i hi hi' => ?_⟩
      cases i with
      | succ i => exact r2 i (by simpa using hi) (by simpa using hi')
      | zero =>
        refine ⟨?_, rfl⟩
        obtain ⟨g1, g2⟩ := G.gl h2
        obtain ⟨p1, p2, p3⟩ := plainN_ok g2
        obtain ⟨wv, v, u, e1, e2, e3, e4⟩ := G.tab.glo t h3
        rw [q.1] at e1
        cases e1
        have hv : v = .ty t := (e4 ⟨fun _ => none, []⟩).ty_
        subst hv
        show PE X (.Name (Str.ofString t) pz) (tC (.ty t))
        rcases e2 with e2 | ⟨e2, e5⟩
        · exact pe_glob g1 e2 e3 p1
        · exact pe_bltn g1 e2 e5 e3 p3 p1
    | _ => cases h
theorem okE (c : E) : ∀ (X : Cx) (s : Sx) (W : WX) (k : Nat), Good γ g X s W k → Ok γ g c X s W R0 H0 := by
  induction c with
  | con w =>
    intro X s W k G
    refine Ok.mk' (f := fun e => match e with | .Constant c _ _ => isConst w c | _ => false) rfl rfl fun e h => ?_
    cases e with
    | Constant c j pos => exact isConst_ok h
    | _ => cases h
  | var i =>
    intro X s W k G
    refine Ok.mk' (f := fun e => match e with | .Name x _ => slot s i x && vis s x | _ => false) rfl rfl fun e h => ?_
    cases e with
    | Name x pos =>
      have h : (slot s i x && vis s x) = true := h
      rw [Bool.and_eq_true] at h
      obtain ⟨h1, h2⟩ := G.slot h.1
      obtain ⟨p1, p2, p3⟩ := plainN_ok h2
      exact e_var h1 (G.vis h.2) p1 p2
    | _ => cases h
  | glo y =>
    intro X s W k G
    refine Ok.mk' (f := fun e => match e with | .Name x _ => decide (x = Str.ofString y) && glb s x && g.glo.contains y | _ => false) rfl rfl fun e h => ?_
    cases e with
    | Name x pos =>
      have h : (decide (x = Str.ofString y) && glb s x && g.glo.contains y) = true := h
      simp only [Bool.and_eq_true, List.contains_iff_mem] at h
      obtain ⟨⟨h1, h2⟩, h3⟩ := h
      have h1 : x = Str.ofString y := of_decide_eq_true h1
      subst h1
      obtain ⟨g1, g2⟩ := G.gl h2
      obtain ⟨p1, p2, p3⟩ := plainN_ok g2
      obtain ⟨wv, v, u, e1, e2, e3, e4⟩ := G.tab.glo y h3
      have q : PE X (.Name (Str.ofString y) pos) (tC v) := by
        rcases e2 with e2 | ⟨e2, e5⟩
        · exact pe_glob g1 e2 e3 p1
        · exact pe_bltn g1 e2 e5 e3 p3 p1
      have : fGlo (γ.glo y) = fCon wv := by
        rw [e1]
        rfl
      rw [this]
      exact e_con q e4
    | _ => cases h
  | bin o a b iha ihb =>
    intro X s W k G
    refine Ok.mk' (f := fun e => match e with | .BinOp x op y _ => isOp o op && (chk g a s).e x && (chk g b s).e y | _ => false) rfl rfl fun e h => ?_
    cases e with
    | BinOp x op y pos =>
      have h : (isOp o op && (chk g a s).e x && (chk g b s).e y) = true := h
      simp only [Bool.and_eq_true] at h
      obtain ⟨r, h1, h2⟩ := b2_ok (X := X) h.1.1
      exact e_op h1 h2 ((iha X s W k G).e x h.1.2) ((ihb X s W k G).e y h.2)
    | _ => cases h
  | cmp o a b iha ihb =>
    intro X s W k G
    have key : ∀ e, (chk g (.cmp o a b) s).e e = true → ∃ x op y pos, e = .Compare x [op] [y] pos ∧ isCo o op = true ∧ noSet y = true ∧ (chk g a s).e x = true ∧ (chk g b s).e y = true := fun e h => by
      cases e with
      | Compare x ops ys pos =>
        match ops, ys, h with
        | [op], [y], h =>
          have h : (isCo o op && noSet y && (chk g a s).e x && (chk g b s).e y) = true := h
          simp only [Bool.and_eq_true] at h
          exact ⟨x, op, y, pos, rfl, h.1.1.1, h.1.1.2, h.1.2, h.2⟩
        | [], _, h => cases h
        | [_], [], h => cases h
        | [_], _ :: _ :: _, h => cases h
        | _ :: _ :: _, _, h => cases h
      | _ => cases h
    refine ⟨fun e h => ?_, fun e h => ?_, fun op es pos h => ?_, fun es h => ?_, fun tg e h => ?_⟩
    · obtain ⟨x, op, y, pos, rfl, h1, h2, h3, h4⟩ := key e h
      obtain ⟨r, q1, q2⟩ := co_ok G.hu h1
      exact e_cmp q1 q2 ((iha X s W k G).e x h3) ((ihb X s W k G).e y h4) (noSet_mark h2 op)
    · obtain ⟨x, op, y, pos, rfl, h1, h2, h3, h4⟩ := key e h
      obtain ⟨r, q1, q2⟩ := co_ok G.hu h1
      exact t_cmp q1 q2 (co_bl o) ((iha X s W k G).e x h3) ((ihb X s W k G).e y h4) (noSet_mark h2 op)
    · cases h
    · cases h
    · cases h
  | chain o o' a b c iha ihb ihc =>
    intro X s W k G
    have key : ∀ e, (chk g (.chain o o' a b c) s).e e = true → ∃ x op op' y z pos, e = .Compare x [op, op'] [y, z] pos ∧ isCo o op = true ∧ isCo o' op' = true ∧ noSet z = true ∧ (chk g a s).e x = true ∧ (chk g b s).e y = true ∧ (chk g c s).e z = true := fun e h => by
      cases e with
      | Compare x ops ys pos =>
        match ops, ys, h with
        | [op, op'], [y, z], h =>
          have h : (isCo o op && isCo o' op' && noSet z && (chk g a s).e x && (chk g b s).e y && (chk g c s).e z) = true := h
          simp only [Bool.and_eq_true] at h
          exact ⟨x, op, op', y, z, pos, rfl, h.1.1.1.1.1, h.1.1.1.1.2, h.1.1.1.2, h.1.1.2, h.1.2, h.2⟩
        | [], _, h => cases h
        | [_], _, h => cases h
        | [_, _], [], h => cases h
        | [_, _], [_], h => cases h
        | [_, _], _ :: _ :: _ :: _, h => cases h
        | _ :: _ :: _ :: _, _, h => cases h
      | _ => cases h
    refine ⟨fun e h => ?_, fun e h => ?_, fun op es pos h => ?_, fun es h => ?_, fun tg e h => ?_⟩
    · obtain ⟨x, op, op', y, z, pos, rfl, h1, h1', h2, h3, h4, h5⟩ := key e h
      obtain ⟨r, q1, q2⟩ := co_ok G.hu h1
      obtain ⟨r', q1', q2'⟩ := co_ok G.hu h1'
      exact e_chain q1 q1' q2 q2' ((iha X s W k G).e x h3) ((ihb X s W k G).e y h4) ((ihc X s W k G).e z h5) (noSet_mark h2 op')
    · obtain ⟨x, op, op', y, z, pos, rfl, h1, h1', h2, h3, h4, h5⟩ := key e h
      obtain ⟨r, q1, q2⟩ := co_ok G.hu h1
      obtain ⟨r', q1', q2'⟩ := co_ok G.hu h1'
      exact t_chain q1 q1' q2 q2' (co_bl o') ((iha X s W k G).e x h3) ((ihb X s W k G).e y h4) ((ihc X s W k G).e z h5) (noSet_mark h2 op')
    · cases h
    · cases h
    · cases h
  | neg a iha =>
    intro X s W k G
    refine Ok.mk' (f := fun e => match e with | .UnaryOp .USub x _ => (chk g a s).e x | _ => false) rfl rfl fun e h => ?_
    cases e with
    | UnaryOp op x pos =>
      cases op with
      | USub =>
        obtain ⟨r, h1, h2⟩ := o_neg (X := X)
        exact e_un h1 h2 ((iha X s W k G).e x h)
      | _ => cases h
    | _ => cases h
  | ix a b iha ihb =>
    intro X s W k G
    refine Ok.mk' (f := fun e => match e with | .Subscript x y _ => !isSlice y && (chk g a s).e x && (chk g b s).e y | _ => false) rfl rfl fun e h => ?_
    cases e with
    | Subscript x y pos =>
      have h : (!isSlice y && (chk g a s).e x && (chk g b s).e y) = true := h
      simp only [Bool.and_eq_true, Bool.not_eq_true'] at h
      exact e_ix ix_seq o_ix ((iha X s W k G).e x h.1.2) ((ihb X s W k G).e y h.2) (plainIx h.1.1)
    | _ => cases h
  | not a iha =>
    intro X s W k G
    refine ⟨fun e h => ?_, fun e h => ?_, fun op es pos h => ?_, fun es h => ?_, fun tg e h => ?_⟩
    · cases e with
      | UnaryOp op x pos =>
        cases op with
        | Not => exact e_not ((iha X s W k G).e x h)
        | _ => cases h
      | _ => cases h
    · cases e with
      | UnaryOp op x pos =>
        cases op with
        | Not => exact t_not ((iha X s W k G).t x h)
        | _ => cases h
      | _ => cases h
    · cases h
    · cases h
    · cases h
  | and a b iha ihb =>
    intro X s W k G
    have key : ∀ (fa fb : Expr → Bool) (e : Expr), (match e with | .BoolOp .And (x :: y :: rest) pos => fa x && restE .And fb y rest pos | _ => false) = true → ∃ x y rest pos, e = .BoolOp .And (x :: y :: rest) pos ∧ fa x = true ∧ restE .And fb y rest pos = true := fun fa fb e h => by
      cases e with
      | BoolOp op es pos =>
        cases op with
        | And =>
          match es, h with
          | x :: y :: rest, h =>
            have h : (fa x && restE .And fb y rest pos) = true := h
            rw [Bool.and_eq_true] at h
            exact ⟨x, y, rest, pos, rfl, h.1, h.2⟩
          | [], h => cases h
          | [_], h => cases h
        | Or => cases es <;> cases h
      | _ => cases h
    have tw : ∀ x y rest pos, (chk g a s).t x = true → restE .And (chk g b s).t y rest pos = true → OW X R0 H0 W (.BoolOp .And (x :: y :: rest) pos) (fAnd (ev γ a).t (ev γ b).t) := fun x y rest pos h1 h2 => by
      rcases restE_ok h2 with ⟨rfl, h2⟩ | h2
      · exact w_and ((iha X s W k G).t x h1) (w_one ((ihb X s W k G).t y h2) .And)
      · exact w_and ((iha X s W k G).t x h1) ((ihb X s W k G).w .And (y :: rest) pos h2)
    refine ⟨fun e h => ?_, fun e h => ?_, fun op es pos h => ?_, fun es h => ?_, fun tg e h => ?_⟩
    · obtain ⟨x, y, rest, pos, rfl, h1, h2⟩ := key _ _ e h
      rcases restE_ok h2 with ⟨rfl, h2⟩ | h2
      · exact e_and ((iha X s W k G).e x h1) (e_one ((ihb X s W k G).e y h2))
      · exact e_and ((iha X s W k G).e x h1) ((ihb X s W k G).e _ h2)
    · obtain ⟨x, y, rest, pos, rfl, h1, h2⟩ := key _ _ e h
      exact (tw x y rest pos h1 h2).pt
    · obtain ⟨x, y, rest, pos', e, h1, h2⟩ := key _ _ _ h
      cases e
      exact tw x y rest pos h1 h2
    · cases h
    · cases h
  | or a b iha ihb =>
    intro X s W k G
    have key : ∀ (fa fb : Expr → Bool) (e : Expr), (match e with | .BoolOp .Or (x :: y :: rest) pos => fa x && restE .Or fb y rest pos | _ => false) = true → ∃ x y rest pos, e = .BoolOp .Or (x :: y :: rest) pos ∧ fa x = true ∧ restE .Or fb y rest pos = true := fun fa fb e h => by
      cases e with
      | BoolOp op es pos =>
        cases op with
        | Or =>
          match es, h with
          | x :: y :: rest, h =>
            have h : (fa x && restE .Or fb y rest pos) = true := h
            rw [Bool.and_eq_true] at h
            exact ⟨x, y, rest, pos, rfl, h.1, h.2⟩
          | [], h => cases h
          | [_], h => cases h
        | And => cases es <;> cases h
      | _ => cases h
    have tw : ∀ x y rest pos, (chk g a s).t x = true → restE .Or (chk g b s).t y rest pos = true → OW X R0 H0 W (.BoolOp .Or (x :: y :: rest) pos) (fOr (ev γ a).t (ev γ b).t) := fun x y rest pos h1 h2 => by
      rcases restE_ok h2 with ⟨rfl, h2⟩ | h2
      · exact w_or ((iha X s W k G).t x h1) (w_one ((ihb X s W k G).t y h2) .Or)
      · exact w_or ((iha X s W k G).t x h1) ((ihb X s W k G).w .Or (y :: rest) pos h2)
    refine ⟨fun e h => ?_, fun e h => ?_, fun op es pos h => ?_, fun es h => ?_, fun tg e h => ?_⟩
    · obtain ⟨x, y, rest, pos, rfl, h1, h2⟩ := key _ _ e h
      rcases restE_ok h2 with ⟨rfl, h2⟩ | h2
      · exact e_or ((iha X s W k G).e x h1) (e_one ((ihb X s W k G).e y h2))
      · exact e_or ((iha X s W k G).e x h1) ((ihb X s W k G).e _ h2)
    · obtain ⟨x, y, rest, pos, rfl, h1, h2⟩ := key _ _ e h
      exact (tw x y rest pos h1 h2).pt
    · obtain ⟨x, y, rest, pos', e, h1, h2⟩ := key _ _ _ h
      cases e
      exact tw x y rest pos h1 h2
    · cases h
    · cases h
  | ife c a b ihc iha ihb =>
    intro X s W k G
    have he : ∀ e, (chk g (.ife c a b) s).e e = true → OE X R0 H0 W e (fIf (ev γ c).t (ev γ a).e (ev γ b).e) := fun e h => by
      cases e with
      | IfExp z x y pos =>
        have h : ((chk g c s).t z && (chk g a s).e x && (chk g b s).e y) = true := h
        simp only [Bool.and_eq_true] at h
        exact e_if ((ihc X s W k G).t z h.1.1) ((iha X s W k G).e x h.1.2) ((ihb X s W k G).e y h.2)
      | _ => cases h
    exact ⟨he, (fun e h => by cases h), (fun op es pos h => by cases h), (fun es h => by cases h), fun tg e h => ⟨_, pi_any (he e h), it_any⟩⟩
  | tup l ih =>
    intro X s W k G
    refine Ok.mk' (f := fun e => match e with | .Tuple es _ _ => (chk g l s).a es | _ => false) rfl rfl fun e h => ?_
    cases e with
    | Tuple es j pos => exact e_tup ((ih X s W k G).a es h)
    | _ => cases h
  | lst l ih =>
    intro X s W k G
    refine Ok.mk' (f := fun e => match e with | .List es _ => (chk g l s).a es | _ => false) rfl rfl fun e h => ?_
    cases e with
    | List es pos => exact e_lst ((ih X s W k G).a es h)
    | _ => cases h
  | anil =>
    intro X s W k G
    refine ⟨(fun e h => by cases h), (fun e h => by cases h), (fun op es pos h => by cases h), fun es h => ?_, (fun tg e h => by cases h)⟩
    cases es with
    | nil => exact .nil
    | cons _ _ => cases h
  | acons a r iha ihr =>
    intro X s W k G
    refine ⟨(fun e h => by cases h), (fun e h => by cases h), (fun op es pos h => by cases h), fun es h => ?_, (fun tg e h => by cases h)⟩
    cases es with
    | nil => cases h
    | cons x es =>
      have h : (!isStar x && (chk g a s).e x && (chk g r s).a es) = true := h
      simp only [Bool.and_eq_true, Bool.not_eq_true'] at h
      exact .cons (star1 h.1.1) ((iha X s W k G).e x h.1.2) ((ihr X s W k G).al es h.2)
  | prim p l ih =>
    intro X s W k G
    refine Ok.mk' (f := fun e => match e with | .Call (.Name x _) (y :: es) [] _ => decide (x = Str.ofString (pname p)) && glb s x && g.free.contains (pname p) && (chk g l s).a (y :: es) | _ => false) rfl rfl fun e h => ?_
    cases e with
    | Call fn args kws pos =>
      cases fn with
      | Name x px =>
        match args, kws, h with
        | y :: es, [], h =>
          have h : (decide (x = Str.ofString (pname p)) && glb s x && g.free.contains (pname p) && (chk g l s).a (y :: es)) = true := h
          simp only [Bool.and_eq_true, List.contains_iff_mem] at h
          obtain ⟨⟨⟨h1, h2⟩, h3⟩, h4⟩ := h
          have h1 : x = Str.ofString (pname p) := of_decide_eq_true h1
          subst h1
          obtain ⟨g1, g2⟩ := G.gl h2
          obtain ⟨p1, p2, p3⟩ := plainN_ok g2
          have hst := chk_stars g l s _ h4
          simp only [List.all_cons, Bool.and_eq_true, Bool.not_eq_true'] at hst
          rcases pr_ok (X := X) p G.calm G.hu70 with ⟨id, r, b1, b2, b3⟩ | ⟨id, r, b1, b2, b3⟩
          · exact e_callB b2 b3 g1 (G.tab.free _ h3) b1 ((ih X s W k G).a _ h4) p3 p1 (star_cons hst.1 es _) (star_any hst.2 pos _)
          · exact e_callTy b2 b3 g1 (G.tab.free _ h3) b1 ((ih X s W k G).a _ h4) p3 p1 (star_cons hst.1 es _) (star_any hst.2 pos _)
        | [], _, h => cases h
        | _ :: _, _ :: _, h => cases h
      | _ => cases h
    | _ => cases h
  | call f l ih =>
    intro X s W k G
    refine Ok.mk' (f := fun e => match e with | .Call (.Name x _) (y :: es) [] _ => decide (x = Str.ofString f) && glb s x && g.fn.contains f && (chk g l s).a (y :: es) | _ => false) rfl rfl fun e h => ?_
    rcases op_cases (o := γ.fn f) with hn | ⟨F, hF⟩
    · rw [fFn_none hn]
      exact e_bad
    · rw [fFn_some hF]
      cases e with
      | Call fn args kws pos =>
        cases fn with
        | Name x px =>
          match args, kws, h with
          | y :: es, [], h =>
            have h : (decide (x = Str.ofString f) && glb s x && g.fn.contains f && (chk g l s).a (y :: es)) = true := h
            simp only [Bool.and_eq_true, List.contains_iff_mem] at h
            obtain ⟨⟨⟨h1, h2⟩, h3⟩, h4⟩ := h
            have h1 : x = Str.ofString f := of_decide_eq_true h1
            subst h1
            obtain ⟨g1, g2⟩ := G.gl h2
            obtain ⟨p1, p2, p3⟩ := plainN_ok g2
            have hst := chk_stars g l s _ h4
            simp only [List.all_cons, Bool.and_eq_true, Bool.not_eq_true'] at hst
            obtain ⟨a, n, hm, D⟩ := G.tab.fn f h3 F hF
            exact e_call (D.ok G.room) G.takes g1 hm p1 ((ih X s W k G).a _ h4) (star_cons hst.1 es _) (star_any hst.2 pos _)
          | [], _, h => cases h
          | _ :: _, _ :: _, h => cases h
        | _ => cases h
      | _ => cases h
  | meth c m o l iho ihl =>
    intro X s W k G
    refine Ok.mk' (f := fun e => match e with | .Call (.Attribute x n apos) es [] pos => decide (n = Str.ofString m) && abOk x && (apos.endLine == pos.line) && decide (es.length < 20) && (chk g o s).e x && (chk g l s).a es | _ => false) rfl rfl fun e h => ?_
    rcases op_cases (o := γ.meth c m) with hn | ⟨F, hF⟩
    · rw [fFn_none hn]
      exact e_bad
    · rw [fFn_some hF]
      cases e with
      | Call fn args kws pos =>
        cases fn with
        | Attribute x n apos =>
          cases kws with
          | nil =>
            have h : (decide (n = Str.ofString m) && abOk x && (apos.endLine == pos.line) && decide (args.length < 20) && (chk g o s).e x && (chk g l s).a args) = true := h
            simp only [Bool.and_eq_true, decide_eq_true_eq] at h
            obtain ⟨⟨⟨⟨⟨h1, h2⟩, h3⟩, h4⟩, h5⟩, h6⟩ := h
            subst h1
            have hst := chk_stars g l s _ h6
            obtain ⟨C, a, n', hm, hc, hM, D⟩ := G.tab.meth c m F hF
            have M : MethOk X c m n' F := ⟨C, a, hm, hM, D.ok G.room⟩
            have hcls : ∀ C', X.mg (Str.ofString c) = some (.ref C') → Cls X.K C' := fun C' h' => by
              rw [hm] at h'
              cases h'
              exact hc
            cases args with
            | nil =>
              have q : (ev γ l).a = fNil ∨ True := .inr trivial
              cases l with
              | anil => exact e_meth0 M G.takes ((iho X s W k G).e x h5) hcls (meth_eval h2 hst h4 h3)
              | _ => cases h6
            | cons y es =>
              have hst' := hst
              simp only [List.all_cons, Bool.and_eq_true, Bool.not_eq_true'] at hst'
              exact e_meth M G.takes ((iho X s W k G).e x h5) ((ihl X s W k G).a _ h6) hcls (star_cons hst'.1 es _) (star_any hst'.2 pos _) (meth_eval h2 hst h4 h3)
          | cons _ _ => cases h
        | _ => cases h
      | _ => cases h
  | new c l ih =>
    intro X s W k G
    refine Ok.mk' (f := fun e => match e with | .Call (.Name x _) es [] _ => decide (x = Str.ofString c) && glb s x && g.init.contains c && (chk g l s).a es | _ => false) rfl rfl fun e h => ?_
    rcases op_cases (o := γ.init c) with hn | ⟨F, hF⟩
    · rw [fFn_none hn]
      exact e_bad
    · rw [fFn_some hF]
      cases e with
      | Call fn args kws pos =>
        cases fn with
        | Name x px =>
          cases kws with
          | nil =>
            have h : (decide (x = Str.ofString c) && glb s x && g.init.contains c && (chk g l s).a args) = true := h
            simp only [Bool.and_eq_true, List.contains_iff_mem] at h
            obtain ⟨⟨⟨h1, h2⟩, h3⟩, h4⟩ := h
            have h1 : x = Str.ofString c := of_decide_eq_true h1
            subst h1
            obtain ⟨g1, g2⟩ := G.gl h2
            obtain ⟨p1, p2, p3⟩ := plainN_ok g2
            have hst := chk_stars g l s _ h4
            obtain ⟨C, a, n, hm, hc, hM, D⟩ := G.tab.init c h3 F hF
            have M : InitOk X c n F := ⟨C, a, hm, hc, hM, D.ok G.room⟩
            cases args with
            | nil =>
              cases l with
              | anil => exact e_new0 M G.takes g1 p1
              | _ => cases h4
            | cons y es =>
              simp only [List.all_cons, Bool.and_eq_true, Bool.not_eq_true'] at hst
              exact e_new M G.takes g1 p1 ((ih X s W k G).a _ h4) (star_cons hst.1 es _) (star_any hst.2 pos _)
          | cons _ _ => cases h
        | _ => cases h
      | _ => cases h
  | fld o f ih =>
    intro X s W k G
    refine Ok.mk' (f := fun e => match e with | .Attribute x n _ => decide (n = Str.ofString f) && abOk x && (chk g o s).e x | _ => false) rfl rfl fun e h => ?_
    cases e with
    | Attribute x n pos =>
      have h : (decide (n = Str.ofString f) && abOk x && (chk g o s).e x) = true := h
      simp only [Bool.and_eq_true, decide_eq_true_eq] at h
      obtain ⟨⟨h1, h2⟩, h3⟩ := h
      subst h1
      exact e_fld ((ih X s W k G).e x h3) (abOk_ok h2 _ _ _)
    | _ => cases h
  | lc tg vs it t e ihit iht ihe =>
    intro X s W k G
    refine Ok.mk' (f := (chk g (.lc tg vs it t e) s).e) rfl rfl fun x h => ?_
    cases x with
    | ListComp elt gens scope pos =>
      obtain ⟨target, iter, ifs, wi, rfl, hvs, hpi, hit, hblk, hg, ht, hel, hns, hvs'⟩ := lc_parts ihit iht ihe G h
      refine PEi (pe_lc G.calm G.nd hpi hblk hg ht hel (noSet_fold hns _)) fun σ H Q q => ?_
      rw [hvs]
      exact lc_read hit (tg_read tg) hvs' q
    | _ => cases h
  | yes =>
    intro X s W k G
    exact ⟨(fun e h => by cases h), (fun e h => by cases h), (fun op es pos h => by cases h), (fun es h => by cases h), (fun tg e h => by cases h)⟩
  | itR l ih =>
    intro X s W k G
    refine ⟨(fun e h => by cases h), (fun e h => by cases h), (fun op es pos h => by cases h), (fun es h => by cases h), fun tg e h => ?_⟩
    cases e with
    | Call fn args kws pos =>
      cases fn with
      | Name x px =>
        match args, kws, h with
        | y :: es, [], h =>
          have h : (decide (x = Str.ofString "range") && glb s x && g.free.contains "range" && (chk g l s).a (y :: es) && decide (arity l = es.length + 1) && decide (es.length ≤ 2)) = true := h
          simp only [Bool.and_eq_true, List.contains_iff_mem, decide_eq_true_eq] at h
          obtain ⟨⟨⟨⟨⟨h1, h2⟩, h3⟩, h4⟩, h5⟩, h6⟩ := h
          subst h1
          obtain ⟨g1, g2⟩ := G.gl h2
          have hm := G.tab.free _ h3
          have hst := chk_stars g l s _ h4
          have ha := (ih X s W k G).a _ h4
          have hl := arity_len γ l
          rw [h5] at hl
          match es, hst, ha, hl, h6 with
          | [], hst, ha, hl, _ =>
            simp only [List.all_cons, Bool.and_eq_true, Bool.not_eq_true'] at hst
            exact ⟨_, pi_range1 g1 hm ha (star_cons hst.1 [] _), it_rng1 hl⟩
          | [b], hst, ha, hl, _ =>
            simp only [List.all_cons, Bool.and_eq_true, Bool.not_eq_true'] at hst
            refine ⟨_, pi_range2 g1 hm ha ?_ (star_cons hst.2.1 [] _), it_rng2 hl⟩
            rw [star_cons hst.1, star_cons hst.2.1]
            rfl
          | [b, c], hst, ha, hl, _ =>
            simp only [List.all_cons, Bool.and_eq_true, Bool.not_eq_true'] at hst
            refine ⟨_, pi_range3 g1 hm ha (star_cons hst.1 _ _) (star_any (es := [b, c]) (by simp [hst.2.1, hst.2.2.1]) pos _), it_rng3 hl⟩
          | _ :: _ :: _ :: _, _, _, _, h6 =>
            simp only [List.length_cons] at h6
            omega
        | [], _, h => cases h
        | _ :: _, _ :: _, h => cases h
      | _ => cases h
    | _ => cases h
  | itV l ih =>
    intro X s W k G
    refine ⟨(fun e h => by cases h), (fun e h => by cases h), (fun op es pos h => by cases h), (fun es h => by cases h), fun tg e h => ?_⟩
    cases e with
    | Call fn args kws pos =>
      cases fn with
      | Name x px =>
        match args, kws, h with
        | [y], [], h =>
          have h : (decide (x = Str.ofString "reversed") && glb s x && g.free.contains "reversed" && (chk g l s).a [y]) = true := h
          simp only [Bool.and_eq_true, List.contains_iff_mem, decide_eq_true_eq] at h
          obtain ⟨⟨⟨h1, h2⟩, h3⟩, h4⟩ := h
          subst h1
          obtain ⟨g1, g2⟩ := G.gl h2
          have hst := chk_stars g l s _ h4
          simp only [List.all_cons, Bool.and_eq_true, Bool.not_eq_true'] at hst
          exact ⟨_, pi_reversed g1 (G.tab.free _ h3) ((ih X s W k G).a _ h4) (star_cons hst.1 [] _), it_rev⟩
        | [], _, h => cases h
        | [_], _ :: _, h => cases h
        | _ :: _ :: _, _, h => cases h
      | _ => cases h
    | _ => cases h
  | lrg l ih =>
    intro X s W k G
    refine Ok.mk' (f := (chk g (.lrg l) s).e) rfl rfl fun e h => ?_
    cases e with
    | Call fn args kws pos =>
      match fn, args, kws, h with
      | .Name y py, [.Call (.Name x px) [a, b, c] [] pos2], [], h =>
        have h : (decide (y = Str.ofString "list") && glb s y && g.free.contains "list" && decide (x = Str.ofString "range") && glb s x && g.free.contains "range" && (chk g l s).a [a, b, c]) = true := h
        simp only [Bool.and_eq_true, List.contains_iff_mem, decide_eq_true_eq] at h
        obtain ⟨⟨⟨⟨⟨⟨h1, h2⟩, h3⟩, h4⟩, h5⟩, h6⟩, h7⟩ := h
        subst h1 h4
        have hst := chk_stars g l s _ h7
        simp only [List.all_cons, Bool.and_eq_true, Bool.not_eq_true'] at hst
        exact PEi (pe_lr3 G.calm (G.gl h2).1 (G.tab.free _ h3) (G.gl h5).1 (G.tab.free _ h6) ((ih X s W k G).a _ h7) (star_cons hst.1 _ _) (star_any (es := [b, c]) (by simp [hst.2.1, hst.2.2.1]) pos2 _)) fun σ H Q q => lrg_read q
    | _ => cases h
  | isE l ih =>
    intro X s W k G
    refine Ok.mk' (f := (chk g (.isE l) s).e) rfl rfl fun e h => ?_
    cases e with
    | Call fn args kws pos =>
      cases fn with
      | Name x px =>
        match args, kws, h with
        | y :: es, [], h =>
          have h : (decide (x = Str.ofString "isinstance") && glb s x && g.free.contains "isinstance" && (chk g l s).a (y :: es)) = true := h
          simp only [Bool.and_eq_true, List.contains_iff_mem] at h
          obtain ⟨⟨⟨h1, h2⟩, h3⟩, h4⟩ := h
          have h1 : x = Str.ofString "isinstance" := of_decide_eq_true h1
          subst h1
          obtain ⟨g1, g2⟩ := G.gl h2
          obtain ⟨p1, p2, p3⟩ := plainN_ok g2
          have hst := chk_stars g l s _ h4
          simp only [List.all_cons, Bool.and_eq_true, Bool.not_eq_true'] at hst
          obtain ⟨r, b2, b3⟩ := c_isE (X := X) G.tab.sub
          exact e_callB b2 b3 g1 (G.tab.free _ h3) PyProof.Rows.boot_isinstance ((ih X s W k G).a _ h4) p3 p1 (star_cons hst.1 es _) (star_any hst.2 pos _)
        | [], _, h => cases h
        | _ :: _, _ :: _, h => cases h
      | _ => cases h
    | _ => cases h
  | sl a lo hi iha ihl ihh =>
    intro X s W k G
    refine Ok.mk' (f := (chk g (.sl a lo hi) s).e) rfl rfl fun e h => ?_
    have part : ∀ (c : E) (o : Option Expr), (∀ e, (chk g c s).e e = true → OE X R0 H0 W e (ev γ c).e) → optC (isAbs c) (chk g c s).e o = true → OP' X R0 H0 W o (optI (isAbs c) (ev γ c).e) := fun c o ih h => by
      cases q : isAbs c with
      | true =>
        rw [q] at h
        cases o with
        | none => exact o_part0
        | some e => cases h
      | false =>
        rw [q] at h
        cases o with
        | none => cases h
        | some e => exact o_part1 (ih e h)
    cases e with
    | Subscript x y pos =>
      cases y with
      | Slice l h' st p2 =>
        have h : (st.isNone && (chk g a s).e x && optC (isAbs lo) (chk g lo s).e l && optC (isAbs hi) (chk g hi s).e h') = true := h
        simp only [Bool.and_eq_true, Option.isNone_iff_eq_none] at h
        obtain ⟨⟨⟨h0, h1⟩, h2⟩, h3⟩ := h
        subst h0
        exact e_sl ((iha X s W k G).e x h1) (part lo l (ihl X s W k G).e h2) (part hi h' (ihh X s W k G).e h3)
      | _ => cases h
    | _ => cases h
  | olst l ih =>
    intro X s W k G
    refine Ok.mk' (f := (chk g (.olst l) s).e) rfl rfl fun e h => ?_
    cases e with
    | List es pos => exact e_ol ((ih X s W k G).a es h)
    | _ => cases h
  | ixS a b iha ihb =>
    intro X s W k G
    refine Ok.mk' (f := (chk g (.ixS a b) s).e) rfl rfl fun e h => ?_
    cases e with
    | Subscript x y pos =>
      have h : (!isSlice y && (chk g a s).e x && (chk g b s).e y) = true := h
      simp only [Bool.and_eq_true, Bool.not_eq_true'] at h
      exact e_ixS ((iha X s W k G).e x h.1.2) ((ihb X s W k G).e y h.2) (plainIx h.1.1)
    | _ => cases h
  | eqS n a b iha ihb =>
    intro X s W k G
    have key : ∀ e, (chk g (.eqS n a b) s).e e = true → ∃ x op y pos, e = .Compare x [op] [y] pos ∧ isCo (if n then .ne else .eq) op = true ∧ noSet y = true ∧ (chk g a s).e x = true ∧ (chk g b s).e y = true := fun e h => by
      cases e with
      | Compare x ops ys pos =>
        match ops, ys, h with
        | [op], [y], h =>
          have h : (isCo (if n then .ne else .eq) op && noSet y && (chk g a s).e x && (chk g b s).e y) = true := h
          simp only [Bool.and_eq_true] at h
          exact ⟨x, op, y, pos, rfl, h.1.1.1, h.1.1.2, h.1.2, h.2⟩
        | [], _, h => cases h
        | [_], [], h => cases h
        | [_], _ :: _ :: _, h => cases h
        | _ :: _ :: _, _, h => cases h
      | _ => cases h
    have ops : ∀ op, isCo (if n then .ne else .eq) op = true → ∃ r, OpR X (compareOp op) r ∧ Prim2S X r (vEqS n) := fun op h => by
      cases n with
      | true => cases op <;> first | exact o_neS G.hu | (cases h)
      | false => cases op <;> first | exact o_eqS G.hu | (cases h)
    refine ⟨fun e h => ?_, fun e h => ?_, fun op es pos h => ?_, fun es h => ?_, fun tg e h => ?_⟩
    · obtain ⟨x, op, y, pos, rfl, h1, h2, h3, h4⟩ := key e h
      obtain ⟨r, q1, q2⟩ := ops op h1
      exact e_cmpS q1 q2 ((iha X s W k G).e x h3) ((ihb X s W k G).e y h4) (noSet_mark h2 op)
    · obtain ⟨x, op, y, pos, rfl, h1, h2, h3, h4⟩ := key e h
      obtain ⟨r, q1, q2⟩ := ops op h1
      exact t_cmpS2 q1 q2 (fun S x y w h => by obtain ⟨_, _, _, _, e⟩ := eqS_of h; exact ⟨_, e⟩) ((iha X s W k G).e x h3) ((ihb X s W k G).e y h4) (noSet_mark h2 op)
    · cases h
    · cases h
    · cases h
  | ssort a iha =>
    intro X s W k G
    refine Ok.mk' (f := (chk g (.ssort a) s).e) rfl rfl fun e h => ?_
    cases e with
    | Call fn args kws pos =>
      match fn, args, kws, h with
      | .Name y py, [.Call (.Name x px) [z] [] pos2], [], h =>
        have h : (decide (y = Str.ofString "sorted") && glb s y && g.free.contains "sorted" && decide (x = Str.ofString "set") && glb s x && g.free.contains "set" && !isStar z && (chk g a s).e z) = true := h
        simp only [Bool.and_eq_true, List.contains_iff_mem, decide_eq_true_eq, Bool.not_eq_true'] at h
        obtain ⟨⟨⟨⟨⟨⟨⟨h1, h2⟩, h3⟩, h4⟩, h5⟩, h6⟩, h7⟩, h8⟩ := h
        subst h1 h4
        exact e_ss G.calm (G.gl h2).1 (G.tab.free _ h3) (G.gl h5).1 (G.tab.free _ h6) ((iha X s W k G).e z h8) (star_cons h7 [] _)
    | _ => cases h
  | inT a b iha ihb =>
    intro X s W k G
    have key : ∀ e, (chk g (.inT a b) s).e e = true → ∃ x op y pos, e = .Compare x [op] [y] pos ∧ isCo .in_ op = true ∧ noSet y = true ∧ (chk g a s).e x = true ∧ (chk g b s).e y = true := fun e h => by
      cases e with
      | Compare x ops ys pos =>
        match ops, ys, h with
        | [op], [y], h =>
          have h : (isCo .in_ op && noSet y && (chk g a s).e x && (chk g b s).e y) = true := h
          simp only [Bool.and_eq_true] at h
          exact ⟨x, op, y, pos, rfl, h.1.1.1, h.1.1.2, h.1.2, h.2⟩
        | [], _, h => cases h
        | [_], [], h => cases h
        | [_], _ :: _ :: _, h => cases h
        | _ :: _ :: _, _, h => cases h
      | _ => cases h
    have ops : ∀ op, isCo .in_ op = true → ∃ r, OpR X (compareOp op) r ∧ Prim2 X r (vInD false) := fun op h => by
      cases op <;> first | exact o_inD G.hu5 | (cases h)
    refine ⟨fun e h => ?_, fun e h => ?_, fun op es pos h => ?_, fun es h => ?_, fun tg e h => ?_⟩
    · obtain ⟨x, op, y, pos, rfl, h1, h2, h3, h4⟩ := key e h
      obtain ⟨r, q1, q2⟩ := ops op h1
      exact e_cmp q1 q2 ((iha X s W k G).e x h3) ((ihb X s W k G).e y h4) (noSet_mark h2 op)
    · obtain ⟨x, op, y, pos, rfl, h1, h2, h3, h4⟩ := key e h
      obtain ⟨r, q1, q2⟩ := ops op h1
      exact t_cmp q1 q2 (fun x y w h => by obtain ⟨_, _, _, _, e⟩ := vInD_of h; exact ⟨_, e⟩) ((iha X s W k G).e x h3) ((ihb X s W k G).e y h4) (noSet_mark h2 op)
    · cases h
    · cases h
    · cases h
  | orv a b iha ihb =>
    intro X s W k G
    refine ⟨fun e h => ?_, (fun e h => by cases h), (fun op es pos h => by cases h), (fun es h => by cases h), (fun tg e h => by cases h)⟩
    cases e with
    | BoolOp op es pos =>
      match op, es, h with
      | .Or, [x, y], h =>
        have h : ((chk g a s).e x && (chk g b s).e y) = true := h
        rw [Bool.and_eq_true] at h
        exact e_orT ((iha X s W k G).e x h.1) ((ihb X s W k G).e y h.2)
    | _ => cases h
  | call0 f =>
    intro X s W k G
    refine Ok.mk' (f := (chk g (.call0 f) s).e) rfl rfl fun e h => ?_
    rcases op_cases (o := γ.fn f) with hn | ⟨F, hF⟩
    · rw [fFn_none hn]
      exact e_bad
    · rw [fFn_some hF]
      cases e with
      | Call fn args kws pos =>
        cases fn with
        | Name x px =>
          match args, kws, h with
          | [], [], h =>
            have h : (decide (x = Str.ofString f) && glb s x && g.fn.contains f) = true := h
            simp only [Bool.and_eq_true, List.contains_iff_mem] at h
            obtain ⟨⟨h1, h2⟩, h3⟩ := h
            have h1 : x = Str.ofString f := of_decide_eq_true h1
            subst h1
            obtain ⟨g1, g2⟩ := G.gl h2
            obtain ⟨p1, p2, p3⟩ := plainN_ok g2
            obtain ⟨a, n, hm, D⟩ := G.tab.fn f h3 F hF
            exact e_call0 (D.ok G.room) G.takes g1 hm p1
          | _ :: _, _, h => cases h
          | [], _ :: _, h => cases h
        | _ => cases h
      | _ => cases h
  | ch3 o o' o'' a b c d iha ihb ihc ihd =>
    intro X s W k G
    have key : ∀ e, (chk g (.ch3 o o' o'' a b c d) s).e e = true → ∃ x op op' op'' y z u pos, e = .Compare x [op, op', op''] [y, z, u] pos ∧ isCo o op = true ∧ isCo o' op' = true ∧ isCo o'' op'' = true ∧ noSet u = true ∧ (chk g a s).e x = true ∧ (chk g b s).e y = true ∧ (chk g c s).e z = true ∧ (chk g d s).e u = true := fun e h => by
      cases e with
      | Compare x ops ys pos =>
        match ops, ys, h with
        | [op, op', op''], [y, z, u], h =>
          have h : (isCo o op && isCo o' op' && isCo o'' op'' && noSet u && (chk g a s).e x && (chk g b s).e y && (chk g c s).e z && (chk g d s).e u) = true := h
          simp only [Bool.and_eq_true] at h
          obtain ⟨⟨⟨⟨⟨⟨⟨h1, h2⟩, h3⟩, h4⟩, h5⟩, h6⟩, h7⟩, h8⟩ := h
          exact ⟨x, op, op', op'', y, z, u, pos, rfl, h1, h2, h3, h4, h5, h6, h7, h8⟩
        | [], _, h => cases h
        | [_], _, h => cases h
        | [_, _], _, h => cases h
        | [_, _, _], [], h => cases h
        | [_, _, _], [_], h => cases h
        | [_, _, _], [_, _], h => cases h
        | [_, _, _], _ :: _ :: _ :: _ :: _, h => cases h
        | _ :: _ :: _ :: _ :: _, _, h => cases h
      | _ => cases h
    refine ⟨fun e h => ?_, fun e h => ?_, fun op es pos h => ?_, fun es h => ?_, fun tg e h => ?_⟩
    · obtain ⟨x, op, op', op'', y, z, u, pos, rfl, h1, h2, h3, h4, h5, h6, h7, h8⟩ := key e h
      obtain ⟨r, q1, q2⟩ := co_ok G.hu h1
      obtain ⟨r', q1', q2'⟩ := co_ok G.hu h2
      obtain ⟨r'', q1'', q2''⟩ := co_ok G.hu h3
      exact e_chain3 q1 q1' q1'' q2 q2' q2'' ((iha X s W k G).e x h5) ((ihb X s W k G).e y h6) ((ihc X s W k G).e z h7) ((ihd X s W k G).e u h8) (noSet_mark h4 op'')
    · obtain ⟨x, op, op', op'', y, z, u, pos, rfl, h1, h2, h3, h4, h5, h6, h7, h8⟩ := key e h
      obtain ⟨r, q1, q2⟩ := co_ok G.hu h1
      obtain ⟨r', q1', q2'⟩ := co_ok G.hu h2
      obtain ⟨r'', q1'', q2''⟩ := co_ok G.hu h3
      exact t_chain3 q1 q1' q1'' q2 q2' q2'' (co_bl o'') ((iha X s W k G).e x h5) ((ihb X s W k G).e y h6) ((ihc X s W k G).e z h7) ((ihd X s W k G).e u h8) (noSet_mark h4 op'')
    · cases h
    · cases h
    · cases h
  | oIx i b ihb =>
    intro X s W k G
    refine Ok.mk' (f := (chk g (.oIx i b) s).e) rfl rfl fun e h => ?_
    cases e with
    | Subscript x y pos =>
      cases x with
      | Name x xp =>
        have h : (!isSlice y && slot s i x && vis s x && (chk g b s).e y) = true := h
        simp only [Bool.and_eq_true, Bool.not_eq_true'] at h
        obtain ⟨⟨⟨h1, h2⟩, h3⟩, h4⟩ := h
        obtain ⟨q1, q2⟩ := G.slot h2
        obtain ⟨p1, p2, p3⟩ := plainN_ok q2
        exact e_oIx q1 (G.vis h3) p1 p2 ((ihb X s W k G).e y h4) (plainIx h1)
      | _ => cases h
    | _ => cases h
  | oLen i =>
    intro X s W k G
    refine Ok.mk' (f := (chk g (.oLen i) s).e) rfl rfl fun e h => ?_
    cases e with
    | Call fn args kws pos =>
      match fn, args, kws, h with
      | .Name y py, [.Name x px], [], h =>
        have h : (decide (y = Str.ofString "len") && glb s y && g.free.contains "len" && slot s i x && vis s x) = true := h
        simp only [Bool.and_eq_true, List.contains_iff_mem, decide_eq_true_eq] at h
        obtain ⟨⟨⟨⟨h1, h2⟩, h3⟩, h4⟩, h5⟩ := h
        subst h1
        obtain ⟨q1, q2⟩ := G.slot h4
        obtain ⟨p1, p2, p3⟩ := plainN_ok q2
        exact e_oLen (G.gl h2).1 (G.tab.free _ h3) q1 (G.vis h5) p1 p2
    | _ => cases h
  | oT i =>
    intro X s W k G
    refine ⟨(fun e h => by cases h), fun e h => ?_, (fun op es pos h => by cases h), (fun es h => by cases h), (fun tg e h => by cases h)⟩
    cases e with
    | Name x xp =>
      have h : (slot s i x && vis s x) = true := h
      rw [Bool.and_eq_true] at h
      obtain ⟨q1, q2⟩ := G.slot h.1
      obtain ⟨p1, p2, p3⟩ := plainN_ok q2
      exact t_oT q1 (G.vis h.2) p1 p2
    | _ => cases h
  | sk f a iha =>
    intro X s W k G
    refine Ok.mk' (f := (chk g (.sk f a) s).e) rfl rfl fun e h => ?_
    show OE X R0 H0 W e (fKey (γ.key f) (ev γ a).e)
    cases q : γ.key f with
    | none => exact e_bad
    | some ks =>
      cases e with
      | Call fn args kws pos =>
        match fn, args, kws, h with
        | .Name y py, [z], [⟨some kn, .Name x px, kp⟩], h =>
          have h : (decide (y = Str.ofString "sorted") && glb s y && g.free.contains "sorted" && decide (kn = ("key" : Str)) && decide (x = Str.ofString f) && glb s x && !isStar z && (chk g a s).e z) = true := h
          simp only [Bool.and_eq_true, List.contains_iff_mem, decide_eq_true_eq, Bool.not_eq_true'] at h
          obtain ⟨⟨⟨⟨⟨⟨⟨h1, h2⟩, h3⟩, h4⟩, h5⟩, h6⟩, h7⟩, h8⟩ := h
          subst h1 h4 h5
          obtain ⟨fad, hm, F⟩ := G.tab.key f ks q
          obtain ⟨g1, g2⟩ := G.gl h6
          obtain ⟨p1, p2, p3⟩ := plainN_ok g2
          exact e_sk G.hu70 G.dp5 (G.gl h2).1 (G.tab.free _ h3) g1 hm p1 F ((iha X s W k G).e z h8) (star_cons h7 [] _)
      | _ => cases h
  | tm m o a iho iha =>
    intro X s W k G
    refine Ok.mk' (f := (chk g (.tm m o a) s).e) rfl rfl fun e h => ?_
    cases e with
    | Call fn args kws pos =>
      match fn, args, kws, h with
      | .Attribute x n apos, [y], [], h =>
        have h : (decide (n = Str.ofString m.name) && abOk x && (apos.endLine == pos.line) && !isStar y && (chk g o s).e x && (chk g a s).e y) = true := h
        simp only [Bool.and_eq_true, decide_eq_true_eq, Bool.not_eq_true'] at h
        obtain ⟨⟨⟨⟨⟨h1, h2⟩, h3⟩, h4⟩, h5⟩, h6⟩ := h
        subst h1
        obtain ⟨id, r, q1, q2, q3, q4⟩ := tm_ok (X := X) m
        exact e_tm q1 q2 q3 q4 ((iho X s W k G).e x h5) ((iha X s W k G).e y h6) (star_cons h4 [] _) (abOk_ok h2 _ _ _) h3
    | _ => cases h
  | tix y a iha =>
    intro X s W k G
    refine Ok.mk' (f := (chk g (.tix y a) s).e) rfl rfl fun e h => ?_
    show OE X R0 H0 W e (fTix (γ.glo y) (ev γ a).e)
    cases e with
    | Call fn args kws pos =>
      match fn, args, kws, h with
      | .Attribute (.Name x px) n apos, [z], [], h =>
        have h : (decide (n = Str.ofString "index") && decide (x = Str.ofString y) && glb s x && g.glo.contains y && g.tup.contains y && (apos.endLine == pos.line) && !isStar z && (chk g a s).e z) = true := h
        simp only [Bool.and_eq_true, List.contains_iff_mem, decide_eq_true_eq, Bool.not_eq_true'] at h
        obtain ⟨⟨⟨⟨⟨⟨⟨h1, h2⟩, h3⟩, h4⟩, h5⟩, h6⟩, h7⟩, h8⟩ := h
        subst h1 h2
        obtain ⟨g1, g2⟩ := G.gl h3
        obtain ⟨p1, p2, p3⟩ := plainN_ok g2
        obtain ⟨wv, v, u, e1, e2, e3, e4⟩ := G.tab.glo y h4
        obtain ⟨ad, ob, t1, t2, t3, t4⟩ := G.tab.tup y h5
        have eu : u = .ref ad := by
          rcases e2 with e2 | ⟨e2, _⟩
          · exact Option.some.inj (e2.symm.trans t1)
          · rw [t1] at e2
            cases e2
        subst eu
        rw [e1]
        cases wv with
        | tup l =>
          have ev : v = .ref ad := by
            obtain ⟨p, vs, rfl, _, _⟩ := (e4 ⟨fun _ => none, []⟩).tup_
            cases e3
            rfl
          subst ev
          have q : PE X (.Name (Str.ofString y) px) (tC (.ref ad)) := pe_glob g1 t1 rfl p1
          exact e_tix q t2 t3 t4 e4 ((iha X s W k G).e z h8) (star_cons h7 [] _) (abOk_ok rfl _ _ _) h6
        | _ => exact e_bad
    | _ => cases h
  | rj o a b iho iha ihb =>
    intro X s W k G
    refine Ok.mk' (f := (chk g (.rj o a b) s).e) rfl rfl fun e h => ?_
    cases e with
    | Call fn args kws pos =>
      match fn, args, kws, h with
      | .Attribute x n apos, [y, z], [], h =>
        have h : (decide (n = Str.ofString "rjust") && abOk x && (apos.endLine == pos.line) && !isStar y && !isStar z && (chk g o s).e x && (chk g a s).e y && (chk g b s).e z) = true := h
        simp only [Bool.and_eq_true, decide_eq_true_eq, Bool.not_eq_true'] at h
        obtain ⟨⟨⟨⟨⟨⟨⟨h1, h2⟩, h3⟩, h4⟩, h5⟩, h6⟩, h7⟩, h8⟩ := h
        subst h1
        exact e_pad ((iho X s W k G).e x h6) ((iha X s W k G).e y h7) ((ihb X s W k G).e z h8) (by rw [star_cons h4, star_cons h5]; rfl) (star_cons h5 [] _) (abOk_ok h2 _ _ _) h3
    | _ => cases h
  | callV fs i l ih =>
    intro X s W k G
    refine Ok.mk' (f := (chk g (.callV fs i l) s).e) rfl rfl fun e h => ?_
    cases e with
    | Call fn args kws pos =>
      match fn, args, kws, h with
      | .Name x px, y :: es, [], h =>
        have h : (slot s i x && vis s x && (fs.all fun f => g.fn.contains f) && (chk g l s).a (y :: es)) = true := h
        simp only [Bool.and_eq_true] at h
        obtain ⟨⟨⟨h1, h2⟩, h3⟩, h4⟩ := h
        obtain ⟨g1, g2⟩ := G.slot h1
        obtain ⟨p1, p2, p3⟩ := plainN_ok g2
        have hst := chk_stars g l s _ h4
        simp only [List.all_cons, Bool.and_eq_true, Bool.not_eq_true'] at hst
        refine e_callV (fun nm hnm F hF => ?_) G.takes g1 (G.vis h2) p1 p2 ((ih X s W k G).a _ h4) (star_cons hst.1 es _) (star_any hst.2 pos _)
        obtain ⟨a, n, hm, D⟩ := G.tab.fn nm (by simpa using List.all_eq_true.mp h3 nm hnm) F hF
        exact ⟨a, n, hm, D.ok G.room⟩
    | _ => cases h
  | dnew =>
    intro X s W k G
    refine Ok.mk' (f := (chk g .dnew s).e) rfl rfl fun e h => ?_
    cases e with
    | Dict ks vs pos =>
      match ks, vs, h with
      | [], [], _ => exact e_dnew
      | [], _ :: _, h => cases h
      | _ :: _, _, h => cases h
    | _ => cases h
  | dget a b iha ihb =>
    intro X s W k G
    refine Ok.mk' (f := (chk g (.dget a b) s).e) rfl rfl fun e h => ?_
    cases e with
    | Subscript x y pos =>
      have h : (!isSlice y && (chk g a s).e x && (chk g b s).e y) = true := h
      simp only [Bool.and_eq_true, Bool.not_eq_true'] at h
      exact e_dget (by have := G.hu; omega) ((iha X s W k G).e x h.1.2) ((ihb X s W k G).e y h.2) (plainIx h.1.1)
    | _ => cases h
  | din n a b iha ihb =>
    intro X s W k G
    have key : ∀ e, (chk g (.din n a b) s).e e = true → ∃ x op y pos, e = .Compare x [op] [y] pos ∧ isCo (if n then .notin else .in_) op = true ∧ noSet y = true ∧ (chk g a s).e x = true ∧ (chk g b s).e y = true := fun e h => by
      cases e with
      | Compare x ops ys pos =>
        match ops, ys, h with
        | [op], [y], h =>
          have h : (isCo (if n then .notin else .in_) op && noSet y && (chk g a s).e x && (chk g b s).e y) = true := h
          simp only [Bool.and_eq_true] at h
          exact ⟨x, op, y, pos, rfl, h.1.1.1, h.1.1.2, h.1.2, h.2⟩
        | [], _, h => cases h
        | [_], [], h => cases h
        | [_], _ :: _ :: _, h => cases h
        | _ :: _ :: _, _, h => cases h
      | _ => cases h
    refine ⟨fun e h => ?_, fun e h => ?_, fun op es pos h => ?_, fun es h => ?_, fun tg e h => ?_⟩
    · obtain ⟨x, op, y, pos, rfl, h1, h2, h3, h4⟩ := key e h
      cases n with
      | true => cases op <;> first | exact e_dnotin (by have := G.hu; omega) ((iha X s W k G).e x h3) ((ihb X s W k G).e y h4) (noSet_mark h2 _) | (cases h1)
      | false => cases op <;> first | exact e_din (by have := G.hu; omega) ((iha X s W k G).e x h3) ((ihb X s W k G).e y h4) (noSet_mark h2 _) | (cases h1)
    · obtain ⟨x, op, y, pos, rfl, h1, h2, h3, h4⟩ := key e h
      cases n with
      | true => cases op <;> first | exact t_din true rfl (by have := G.hu; omega) ((iha X s W k G).e x h3) ((ihb X s W k G).e y h4) (noSet_mark h2 _) | (cases h1)
      | false => cases op <;> first | exact t_din false rfl (by have := G.hu; omega) ((iha X s W k G).e x h3) ((ihb X s W k G).e y h4) (noSet_mark h2 _) | (cases h1)
    · cases h
    · cases h
    · cases h
  | itD a iha =>
    intro X s W k G
    refine ⟨(fun e h => by cases h), (fun e h => by cases h), (fun op es pos h => by cases h), (fun es h => by cases h), fun tg e h => ?_⟩
    exact ⟨_, pi_keys ((iha X s W k G).e e h), it_keys⟩
  | itW a iha =>
    intro X s W k G
    refine ⟨(fun e h => by cases h), (fun e h => by cases h), (fun op es pos h => by cases h), (fun es h => by cases h), fun tg e h => ?_⟩
    cases e with
    | Call fn args kws pos =>
      match fn, args, kws, h with
      | .Attribute x n apos, [], [], h =>
        have h : (decide (n = Str.ofString "values") && abOk x && (apos.endLine == pos.line) && (chk g a s).e x) = true := h
        simp only [Bool.and_eq_true, decide_eq_true_eq] at h
        obtain ⟨⟨⟨h1, h2⟩, h3⟩, h4⟩ := h
        subst h1
        exact ⟨_, pi_values ((iha X s W k G).e x h4) (abOk_ok h2 _ _ _) h3, it_vals⟩
    | _ => cases h
  | dget1 o a iho iha =>
    intro X s W k G
    refine Ok.mk' (f := (chk g (.dget1 o a) s).e) rfl rfl fun e h => ?_
    cases e with
    | Call fn args kws pos =>
      match fn, args, kws, h with
      | .Attribute x n apos, [y], [], h =>
        have h : (decide (n = Str.ofString "get") && abOk x && (apos.endLine == pos.line) && !isStar y && (chk g o s).e x && (chk g a s).e y) = true := h
        simp only [Bool.and_eq_true, decide_eq_true_eq, Bool.not_eq_true'] at h
        obtain ⟨⟨⟨⟨⟨h1, h2⟩, h3⟩, h4⟩, h5⟩, h6⟩ := h
        subst h1
        exact e_dget1 (by have := G.hu; omega) ((iho X s W k G).e x h5) ((iha X s W k G).e y h6) (m1_of (abOk_ok h2 _ _ _) h3 (star_cons h4 [] _))
    | _ => cases h
  | dget2 o a b iho iha ihb =>
    intro X s W k G
    refine Ok.mk' (f := (chk g (.dget2 o a b) s).e) rfl rfl fun e h => ?_
    cases e with
    | Call fn args kws pos =>
      match fn, args, kws, h with
      | .Attribute x n apos, [y, z], [], h =>
        have h : (decide (n = Str.ofString "get") && abOk x && (apos.endLine == pos.line) && !isStar y && !isStar z && (chk g o s).e x && (chk g a s).e y && (chk g b s).e z) = true := h
        simp only [Bool.and_eq_true, decide_eq_true_eq, Bool.not_eq_true'] at h
        obtain ⟨⟨⟨⟨⟨⟨⟨h1, h2⟩, h3⟩, h4⟩, h5⟩, h6⟩, h7⟩, h8⟩ := h
        subst h1
        exact e_dget2 (by have := G.hu; omega) ((iho X s W k G).e x h6) ((iha X s W k G).e y h7) ((ihb X s W k G).e z h8) (m2_of (abOk_ok h2 _ _ _) h3 (by rw [star_cons h4, star_cons h5]; rfl))
    | _ => cases h
  | dpop o a iho iha =>
    intro X s W k G
    refine Ok.mk' (f := (chk g (.dpop o a) s).e) rfl rfl fun e h => ?_
    cases e with
    | Call fn args kws pos =>
      match fn, args, kws, h with
      | .Attribute x n apos, [y], [], h =>
        have h : (decide (n = Str.ofString "pop") && abOk x && (apos.endLine == pos.line) && !isStar y && (chk g o s).e x && (chk g a s).e y) = true := h
        simp only [Bool.and_eq_true, decide_eq_true_eq, Bool.not_eq_true'] at h
        obtain ⟨⟨⟨⟨⟨h1, h2⟩, h3⟩, h4⟩, h5⟩, h6⟩ := h
        subst h1
        exact e_dpop ((iho X s W k G).e x h5) ((iha X s W k G).e y h6) (m1_of (abOk_ok h2 _ _ _) h3 (star_cons h4 [] _))
    | _ => cases h
  | dlen a iha =>
    intro X s W k G
    refine Ok.mk' (f := (chk g (.dlen a) s).e) rfl rfl fun e h => ?_
    cases e with
    | Call fn args kws pos =>
      match fn, args, kws, h with
      | .Name y py, [x], [], h =>
        have h : (decide (y = Str.ofString "len") && glb s y && g.free.contains "len" && !isStar x && (chk g a s).e x) = true := h
        simp only [Bool.and_eq_true, List.contains_iff_mem, decide_eq_true_eq, Bool.not_eq_true'] at h
        obtain ⟨⟨⟨⟨h1, h2⟩, h3⟩, h4⟩, h5⟩ := h
        subst h1
        exact e_dlen (G.gl h2).1 (G.tab.free _ h3) ((iha X s W k G).e x h5) (star_cons h4 [] _)
    | _ => cases h
  | dT a iha =>
    intro X s W k G
    refine ⟨(fun e h => by cases h), (fun e h => ?_), (fun op es pos h => ?_), (fun es h => by cases h), (fun tg e h => by cases h)⟩
    · have h : ((chk g a s).e e && plainT e) = true := h
      rw [Bool.and_eq_true] at h
      exact t_dT ((iha X s W k G).e e h.1) (plainT_ok h.2 _)
    · have h : ((chk g a s).e (.BoolOp op es pos) && plainT (.BoolOp op es pos)) = true := h
      rw [Bool.and_eq_true] at h
      cases h.2
  | dsort a iha =>
    intro X s W k G
    refine Ok.mk' (f := (chk g (.dsort a) s).e) rfl rfl fun e h => ?_
    cases e with
    | Call fn args kws pos =>
      match fn, args, kws, h with
      | .Name y py, [x], [], h =>
        have h : (decide (y = Str.ofString "sorted") && glb s y && g.free.contains "sorted" && !isStar x && (chk g a s).e x) = true := h
        simp only [Bool.and_eq_true, List.contains_iff_mem, decide_eq_true_eq, Bool.not_eq_true'] at h
        obtain ⟨⟨⟨⟨h1, h2⟩, h3⟩, h4⟩, h5⟩ := h
        subst h1
        exact e_dsort G.calm (G.gl h2).1 (G.tab.free _ h3) ((iha X s W k G).e x h5) (star_cons h4 [] _)
    | _ => cases h
  | ddisp ks l ih =>
    intro X s W k G
    refine Ok.mk' (f := (chk g (.ddisp ks l) s).e) rfl rfl fun e h => ?_
    cases e with
    | Dict keys es pos =>
      have h : (keysC ks keys && decide (es.length = keys.length) && decide (0 < ks.length) && decide (ks.length ≤ 15) && (chk g l s).a es) = true := h
      simp only [Bool.and_eq_true, decide_eq_true_eq] at h
      obtain ⟨⟨⟨⟨h1, h2⟩, h3⟩, h4⟩, h5⟩ := h
      exact e_disp ((ih X s W k G).al es h5) h1 h2 h3 h4
    | _ => cases h
  | lenS a iha =>
    intro X s W k G
    refine Ok.mk' (f := (chk g (.lenS a) s).e) rfl rfl fun e h => ?_
    cases e with
    | Call fn args kws pos =>
      match fn, args, kws, h with
      | .Name y py, [x], [], h =>
        have h : (decide (y = Str.ofString "len") && glb s y && g.free.contains "len" && !isStar x && (chk g a s).e x) = true := h
        simp only [Bool.and_eq_true, List.contains_iff_mem, decide_eq_true_eq, Bool.not_eq_true'] at h
        obtain ⟨⟨⟨⟨h1, h2⟩, h3⟩, h4⟩, h5⟩ := h
        subst h1
        exact e_lenS (G.gl h2).1 (G.tab.free _ h3) ((iha X s W k G).e x h5) (star_cons h4 [] _)
    | _ => cases h
  | tS a iha =>
    intro X s W k G
    refine ⟨(fun e h => by cases h), (fun e h => ?_), (fun op es pos h => ?_), (fun es h => by cases h), (fun tg e h => by cases h)⟩
    · have h : ((chk g a s).e e && plainT e) = true := h
      rw [Bool.and_eq_true] at h
      exact t_tS ((iha X s W k G).e e h.1) (plainT_ok h.2 _)
    · have h : ((chk g a s).e (.BoolOp op es pos) && plainT (.BoolOp op es pos)) = true := h
      rw [Bool.and_eq_true] at h
      cases h.2
  | listS a iha =>
    intro X s W k G
    refine Ok.mk' (f := (chk g (.listS a) s).e) rfl rfl fun e h => ?_
    cases e with
    | Call fn args kws pos =>
      match fn, args, kws, h with
      | .Name y py, [x], [], h =>
        have h : (decide (y = Str.ofString "list") && glb s y && g.free.contains "list" && !isStar x && (chk g a s).e x) = true := h
        simp only [Bool.and_eq_true, List.contains_iff_mem, decide_eq_true_eq, Bool.not_eq_true'] at h
        obtain ⟨⟨⟨⟨h1, h2⟩, h3⟩, h4⟩, h5⟩ := h
        subst h1
        exact e_listS (G.gl h2).1 (G.tab.free _ h3) ((iha X s W k G).e x h5) (star_cons h4 [] _)
    | _ => cases h
  | olc tg vs it t e ihit iht ihe =>
    intro X s W k G
    refine Ok.mk' (f := (chk g (.olc tg vs it t e) s).e) rfl rfl fun x h => ?_
    cases x with
    | ListComp elt gens scope pos =>
      obtain ⟨target, iter, ifs, wi, rfl, hvs, hpi, hit, hblk, hg, ht, hel, hns, hvs'⟩ := lc_parts (R0 := R0) (H0 := H0) ihit iht ihe G (show (chk g (.lc tg vs it t e) s).e (.ListComp elt gens scope pos) = true from h)
      refine PEi (pe_lc G.calm G.nd hpi hblk hg ht hel (noSet_fold hns _)) fun σ H Q h => ?_
      rw [hvs]
      exact olc_read hit (tg_read tg) hvs' h
    | _ => cases h
  | isTs ts a iha =>
    intro X s W k G
    refine Ok.mk' (f := (chk g (.isTs ts a) s).e) rfl rfl fun e h => ?_
    show OE X R0 H0 W e (fIsG (ts.all fun t => decide (γ.glo t = some (.ty t))) ts (ev γ a).e)
    unfold fIsG
    by_cases q : (ts.all fun t => decide (γ.glo t = some (.ty t))) = true
    · rw [if_pos q]
      cases e with
      | Call fn args kws pos =>
        match fn, args, kws, h with
        | .Name x px, [y, .Tuple es j tp], [], h =>
          have h : (decide (x = Str.ofString "isinstance") && glb s x && g.free.contains "isinstance" && !isStar y && (chk g a s).e y && tysC s g ts es && decide (ts.length ≤ 1000)) = true := h
          simp only [Bool.and_eq_true, List.contains_iff_mem, decide_eq_true_eq, Bool.not_eq_true'] at h
          obtain ⟨⟨⟨⟨⟨⟨h1, h2⟩, h3⟩, h4⟩, h5⟩, h6⟩, h7⟩ := h
          subst h1
          obtain ⟨t1, t2⟩ := tys_ok G h6 q
          exact e_isTs (G.gl h2).1 (G.tab.free _ h3) ((iha X s W k G).e y h5) t1 h7 t2 (star_cons h4 _ _)
      | _ => cases h
    · rw [if_neg q]
      exact e_bad
  | spM o a b iho iha ihb =>
    intro X s W k G
    refine Ok.mk' (f := (chk g (.spM o a b) s).e) rfl rfl fun e h => ?_
    cases e with
    | Call fn args kws pos =>
      match fn, args, kws, h with
      | .Attribute x n apos, [y, z], [], h =>
        have h : (decide (n = Str.ofString "split") && abOk x && (apos.endLine == pos.line) && !isStar y && !isStar z && (chk g o s).e x && (chk g a s).e y && (chk g b s).e z) = true := h
        simp only [Bool.and_eq_true, decide_eq_true_eq, Bool.not_eq_true'] at h
        obtain ⟨⟨⟨⟨⟨⟨⟨h1, h2⟩, h3⟩, h4⟩, h5⟩, h6⟩, h7⟩, h8⟩ := h
        subst h1
        exact e_spM ((iho X s W k G).e x h6) ((iha X s W k G).e y h7) ((ihb X s W k G).e z h8) (by rw [star_cons h4, star_cons h5]; rfl) (star_cons h5 [] _) (abOk_ok h2 _ _ _) h3
    | _ => cases h
  | lix o a iho iha =>
    intro X s W k G
    refine Ok.mk' (f := (chk g (.lix o a) s).e) rfl rfl fun e h => ?_
    cases e with
    | Call fn args kws pos =>
      match fn, args, kws, h with
      | .Attribute x n apos, [y], [], h =>
        have h : (decide (n = Str.ofString "index") && abOk x && (apos.endLine == pos.line) && !isStar y && (chk g o s).e x && (chk g a s).e y) = true := h
        simp only [Bool.and_eq_true, decide_eq_true_eq, Bool.not_eq_true'] at h
        obtain ⟨⟨⟨⟨⟨h1, h2⟩, h3⟩, h4⟩, h5⟩, h6⟩ := h
        subst h1
        exact e_lix ((iho X s W k G).e x h5) ((iha X s W k G).e y h6) (star_cons h4 [] _) (abOk_ok h2 _ _ _) h3
    | _ => cases h
  | lcnt o a iho iha =>
    intro X s W k G
    refine Ok.mk' (f := (chk g (.lcnt o a) s).e) rfl rfl fun e h => ?_
    cases e with
    | Call fn args kws pos =>
      match fn, args, kws, h with
      | .Attribute x n apos, [y], [], h =>
        have h : (decide (n = Str.ofString "count") && abOk x && (apos.endLine == pos.line) && !isStar y && (chk g o s).e x && (chk g a s).e y) = true := h
        simp only [Bool.and_eq_true, decide_eq_true_eq, Bool.not_eq_true'] at h
        obtain ⟨⟨⟨⟨⟨h1, h2⟩, h3⟩, h4⟩, h5⟩, h6⟩ := h
        subst h1
        exact e_lcnt ((iho X s W k G).e x h5) ((iha X s W k G).e y h6) (star_cons h4 [] _) (abOk_ok h2 _ _ _) h3
    | _ => cases h
end
end Mi
end
section
/-! Mi, part M: statements: when a tree is one, and that it does what it means. -/
namespace Mi
open PySem PySem.Spec PyProof.Rows L2

structure CkS where
  s : Stmt → Bool := fun _ => false
  l : List Stmt → Bool := fun _ => false
def mkS (f : Stmt → Bool) : CkS := { s := f, l := fun sts => match sts with
  | [st] => f st
  | _ => false }
def isLcE : E → Bool
  | .lc .. => true
  | _ => false
def isLcO : E → Bool
  | .lc .. => true
  | .olc .. => true
  | _ => false
def isLc : Expr → Bool
  | .ListComp .. => true
  | _ => false
/-- does the assignment of a comprehension go past the stack -/
def swB (s : Sx) (x : Str) (px : Pos) : Expr → Bool
  | .ListComp _ _ scope pos => decide (s.names.lookup x = some .local) && (px.line == pos.line) && !(scope.names.any fun (n, k) => n == x && (k == .local || k == .cell))
  | _ => false
def noTup : Expr → Bool
  | .Tuple .. => false
  | _ => true
/-- except x as n: b -/
def hOf (h : ExceptHandler) : Option (Str × Str × List Stmt) := match h with
  | .ExceptHandler (some (.Name x _)) (some n) b _ => some (x, n, b)
  | _ => none
theorem hOf_eq {h : ExceptHandler} {x n : Str} {b : List Stmt} (q : hOf h = some (x, n, b)) : ∃ np pos', h = .ExceptHandler (some (.Name x np)) (some n) b pos' := by
  obtain ⟨ty, nm, b', p⟩ := h
  cases ty with
  | none => cases q
  | some e =>
    cases nm with
    | none => cases e <;> cases q
    | some n' =>
      cases e with
      | Name y py =>
        cases q
        exact ⟨_, _, rfl⟩
      | _ => cases q
def nmOf (e : Expr) : Option Str := match e with
  | .Name x _ => some x
  | _ => none
theorem nmOf_eq {e : Expr} {x : Str} (q : nmOf e = some x) : ∃ p, e = .Name x p := by
  cases e with
  | Name y p =>
    cases q
    exact ⟨p, rfl⟩
  | _ => cases q
def a1Of (st : Stmt) : Option (Str × Str) := match st with
  | .Assign [t] v _ => (match nmOf t, nmOf v with
    | some m, some n => some (m, n)
    | _, _ => none)
  | _ => none
theorem a1Of_eq {st : Stmt} {m n : Str} (q : a1Of st = some (m, n)) : ∃ mp vp ap, st = .Assign [.Name m mp] (.Name n vp) ap := by
  cases st with
  | Assign ts v p =>
    match ts, q with
    | [t], q =>
      have q : (match nmOf t, nmOf v with | some m, some n => some (m, n) | _, _ => none) = some (m, n) := q
      cases h1 : nmOf t with
      | none => rw [h1] at q; cases q
      | some y =>
        cases h2 : nmOf v with
        | none => rw [h1, h2] at q; cases q
        | some z =>
          rw [h1, h2] at q
          cases q
          obtain ⟨p1, rfl⟩ := nmOf_eq h1
          obtain ⟨p2, rfl⟩ := nmOf_eq h2
          exact ⟨_, _, _, rfl⟩
    | [], q => cases q
    | _ :: _ :: _, q => cases q
  | _ => cases q
/-- m = n, alone -/
def aOf (l : List Stmt) : Option (Str × Str) := match l with
  | [st] => a1Of st
  | _ => none
theorem aOf_eq {l : List Stmt} {m n : Str} (q : aOf l = some (m, n)) : ∃ mp vp ap, l = [.Assign [.Name m mp] (.Name n vp) ap] := by
  match l, q with
  | [st], q =>
    obtain ⟨mp, vp, ap, rfl⟩ := a1Of_eq q
    exact ⟨_, _, _, rfl⟩
  | [], q => cases q
  | _ :: _ :: _, q => cases q
/-- except x: m = None -/
def nOf (h : ExceptHandler) : Option (Str × Str) := match h with
  | .ExceptHandler (some (.Name x _)) none [.Assign [.Name m _] (.Constant .none _ _) _] _ => some (x, m)
  | _ => none
theorem nOf_eq {h : ExceptHandler} {x m : Str} (q : nOf h = some (x, m)) : ∃ np mp cp ap pos' k, h = .ExceptHandler (some (.Name x np)) none [.Assign [.Name m mp] (.Constant .none k cp) ap] pos' := by
  unfold nOf at q
  split at q
  · cases q
    exact ⟨_, _, _, _, _, _, rfl⟩
  · cases q
/-- except x as n: m = n.word -/
def wOf (h : ExceptHandler) : Option (Str × Str × Str) := match h with
  | .ExceptHandler (some (.Name x _)) (some n) [.Assign [.Name m _] (.Attribute (.Name n' _) f _) _] _ => if n' = n ∧ f = Str.ofString "word" then some (x, n, m) else none
  | _ => none
theorem wOf_eq {h : ExceptHandler} {x n m : Str} (q : wOf h = some (x, n, m)) : ∃ np mp vp fp ap pos', h = .ExceptHandler (some (.Name x np)) (some n) [.Assign [.Name m mp] (.Attribute (.Name n vp) (Str.ofString "word") fp) ap] pos' := by
  unfold wOf at q
  split at q
  · split at q
    · rename_i c
      cases q
      obtain ⟨rfl, rfl⟩ := c
      exact ⟨_, _, _, _, _, _, rfl⟩
    · cases q
  · cases q
/-- a.f, a.g, .. of one name -/
def atC (s : Sx) (i : Nat) : List String → List Expr → Bool
  | [], [] => true
  | f :: fs, .Attribute (.Name x _) n _ :: es => slot s i x && vis s x && decide (n = Str.ofString f) && atC s i fs es
  | _, _ => false
theorem swaps_lcA {v : Expr} (h : isLc v = true) (a : Expr) (n : Str) (p : Pos) (l : Nat) {env : PySem.Env} : swapsWith v (some (.Attribute a n p)) l env = pure false := by
  cases v with
  | ListComp _ _ _ _ => rfl
  | _ => cases h
def chkK (g : Cg) : Ks → Sx → CkS
  | .skip, _ => { s := fun st => (match st with
      | .Pass _ => true
      | _ => false), l := fun sts => sts.isEmpty }
  | .seq a b, s => { l := fun sts => match sts with
      | st :: rest => (chkK g a s).s st && (chkK g b s).l rest
      | [] => false }
  | .asg i e, s => mkS fun st => match st with
    | .Assign [.Name x px] v _ => slot s i x && loc s x && (chk g e s).e v && (noLc v || (isLc v && isLcO e))
    | _ => false
  | .ownL i l, s => mkS fun st => match st with
    | .Assign [.Name x _] (.List es _) _ => slot s i x && loc s x && (chk g l s).a es
    | _ => false
  | .app i e, s => mkS fun st => match st with
    | .Expr (.Call (.Attribute (.Name x _) m apos) [v] [] p) _ => slot s i x && vis s x && decide (m = ("append" : Str)) && !isStar v && (apos.endLine == p.line) && (chk g e s).e v
    | _ => false
  | .setO i k e, s => mkS fun st => match st with
    | .Assign [.Subscript (.Name x _) ke _] v _ => slot s i x && vis s x && !isSlice ke && noLc v && (chk g k s).e ke && (chk g e s).e v
    | _ => false
  | .asgT is e, s => mkS fun st => match st with
    | .Assign [.Tuple es k p] v _ => tgC s (.many is) (.Tuple es k p) && noLc v && noTup v && (chk g e s).e v
    | _ => false
  | .par i j l, s => mkS fun st => match st with
    | .Assign [.Tuple [.Name x px, .Name y py] _ _] (.Tuple [a, b] _ _) _ => slot s i x && slot s j y && !(i == j) && decide (s.names.lookup x = some .local) && decide (s.names.lookup y = some .local) && (px.line == py.line) && !(x == y) && !isStar a && !isStar b
        && !(foldedForSure 8 a && foldedForSure 8 b) && !(constantsAlone 8 a && constantsAlone 8 b) && (chk g l s).a [a, b]
    | _ => false
  | .setF o f e, s => mkS fun st => match st with
    | .Assign [.Attribute a n _] v _ => decide (n = Str.ofString f) && (noLc v || isLc v) && (chk g o s).e a && (chk g e s).e v
    | _ => false
  | .expr e, s => mkS fun st => match st with
    | .Expr v _ => noLc v && (chk g e s).e v
    | _ => false
  | .ife c a b, s => mkS fun st => match st with
    | .If v t u _ => (chk g c s).t v && (chkK g a s).l t && (chkK g b s).l u
    | _ => false
  | .whl c b, s => mkS fun st => match st with
    | .While v t [] _ => (chk g c s).t v && (chkK g b s).l t
    | _ => false
  | .for_ tg it b, s => mkS fun st => match st with
    | .For v w t [] _ => tgC s tg v && (chk g it s).i w && noSet w && (chkK g b s).l t
    | _ => false
  | .ret e, s => mkS fun st => match st with
    | .Return (some v) _ => (chk g e s).e v
    | _ => false
  | .retN, _ => mkS fun st => match st with
    | .Return none _ => true
    | _ => false
  | .raise c, s => mkS fun st => match st with
    | .Raise (some (.Call (.Name x _) [.Constant (.str _) _ _] [] _)) none _ => decide (x = Str.ofString c) && glb s x && g.exc.contains c
    | _ => false
  | .frz i k, s => mkS fun st => (chkK g k s).s st
  | .lk _ k, s => mkS fun st => (chkK g k s).s st
  | .frzS i k, s => mkS fun st => (chkK g k s).s st
  | .ownK i e, s => mkS fun st => match st with
    | .Assign [.Name x _] (.Call (.Name y _) [v] [] _) _ => slot s i x && loc s x && decide (y = Str.ofString "list") && glb s y && g.free.contains "list" && !isStar v && (chk g e s).e v
    | _ => false
  | .raiseI c e, s => mkS fun st => match st with
    | .Raise (some (.Call (.Name x _) [y] [] _)) none _ => decide (x = Str.ofString c) && glb s x && !isStar y && (chk g e s).e y
    | _ => false
  | .tryW t i j b, s => mkS fun st => match st with
    | .Try body [hd] [] [] _ => (match wOf hd with
      | some (x, n, m) => decide (x = Str.ofString t) && glb s x && g.wrd.contains t && slot s i n && decide (s.names.lookup n = some .local) && slot s j m && decide (s.names.lookup m = some .local) && decide (i ≠ j) && (chkK g b s).l body
      | none => false)
    | _ => false
  | .ext i e, s => mkS fun st => match st with
    | .Expr (.Call (.Attribute (.Name x _) m apos) [v] [] p) _ => slot s i x && vis s x && decide (m = ("extend" : Str)) && !isStar v && (apos.endLine == p.line) && (chk g e s).e v
    | _ => false
  | .setS o k e, s => mkS fun st => match st with
    | .Assign [.Subscript x ke _] v _ => !isSlice ke && noLc v && (chk g o s).e x && (chk g k s).e ke && (chk g e s).e v
    | _ => false
  | .tryN t j b, s => mkS fun st => match st with
    | .Try body [hd] [] [] _ => (match nOf hd with
      | some (x, m) => decide (x = Str.ofString t) && glb s x && g.cls.contains t && slot s j m && loc s m && (chkK g b s).l body
      | none => false)
    | _ => false
  | .putD o k e, s => mkS fun st => match st with
    | .Assign [.Subscript x ke _] v _ => noLc v && (chk g o s).e x && (chk g k s).e ke && (chk g e s).e v
    | _ => false
  | .ownC i e, s => mkS fun st => match st with
    | .Assign [.Name x px] v _ => slot s i x && loc s x && (chk g e s).e v && (isLc v && isLcE e)
    | _ => false
  | .asgA i fs e, s => mkS fun st => match st with
    | .Assign [.Tuple es _ _] v _ => atC s i fs es && noLc v && noTup v && (chk g e s).e v
    | _ => false
  | .kept t i j b, s => mkS fun st => match st with
    | .Try body [hd] [] [] _ => (match hOf hd with
      | some (x, n, sb) => (match aOf sb with
        | some (m, n') => decide (x = Str.ofString t) && glb s x && g.cls.contains t && decide (n' = n) && slot s i n && decide (s.names.lookup n = some .local) && slot s j m && decide (s.names.lookup m = some .local) && (chkK g b s).l body
        | none => false)
      | none => false)
    | _ => false

theorem notStar : ∀ e : Expr, isStar e = false → (match e with | .Starred .. => true | _ => false) = false := by
  intro e h
  cases e <;> first | rfl | (cases h)
theorem par_stores {X : PySem.Env} {x y : Str} {a b : Expr} {px py pt : Pos} {kt k2 : Nat} {p2 : Pos} (hk : X.scope.kind = .function) (hx : X.scope.names.lookup x = some .local) (hy : X.scope.names.lookup y = some .local) (hl : (px.line == py.line) = true) (hn : x ≠ y)
    (ha : isStar a = false) (hb : isStar b = false) (hf : (foldedForSure 8 a && foldedForSure 8 b) = false) (hc : (constantsAlone 8 a && constantsAlone 8 b) = false) : swappedStores [.Tuple [.Name x px, .Name y py] kt pt] (.Tuple [a, b] k2 p2) X = pure (some [x, y]) := by
  have bk : X.blockKind = .function := by unfold Env.blockKind; rw [hk]; rfl
  have kx : X.kindOf x = some .local := hx
  have ky : X.kindOf y = some .local := hy
  have s1 := notStar a ha
  have s2 := notStar b hb
  have hf : [a, b].all (foldedForSure 8) = false := by
    rw [List.all_cons, List.all_cons, List.all_nil, Bool.and_true]
    exact hf
  have hc : [a, b].all (constantsAlone 8) = false := by
    rw [List.all_cons, List.all_cons, List.all_nil, Bool.and_true]
    exact hc
  have hl2 : (py.line == px.line) = true := by rw [beq_iff_eq] at hl ⊢; exact hl.symm
  have hl3 : ((Expr.Name y py).pos.line == (Expr.Name x px).pos.line) = true := hl2
  have hd : ([x, y] : List Str).eraseDups = [x, y] := by
    have : (y == x) = false := beq_eq_false_iff_ne.mpr (Ne.symm hn)
    simp [List.eraseDups, List.eraseDupsBy, List.eraseDupsBy.loop, this]
  have q1 : (Expr.Name x px).pos = px := rfl
  have q2 : (Expr.Name y py).pos = py := rfl
  have hl4 : py.line = px.line := by simpa using hl2
  unfold swappedStores
  simp [bk, kx, ky, hf, hc, hd, hl4, q1, q2]
  intro h
  rcases h with h | h
  · exact absurd (s1.symm.trans h) (by decide)
  · exact absurd (s2.symm.trans h) (by decide)
/-- in a def's own body -/
structure GoodS (γ : Ga) (g : Cg) (X : Cx) (s : Sx) (W : WX) (k : Nat) : Prop extends Good γ g X s W k where
  fn : ∀ x, X.fn x = true
  own : PassesOwn (model X.prog X.w) X.A X.env X.xe
  stk : X.stack = X.env :: X.outer
  frm : X.env.frame = some X.env.locals
  ex0 : X.ex = []
section
variable {γ : Ga} {g : Cg} {R0 : RC} {H0 : Hp}
/-- what is shown of a statement -/
structure OkS (γ : Ga) (g : Cg) (c : Ks) (X : Cx) (s : Sx) (W : WX) (R0 : RC) (H0 : Hp) : Prop where
  o : ∀ st, (chkK g c s).s st = true → OS X R0 H0 W st (evK γ c)
  l : ∀ sts, (chkK g c s).l sts = true → OSs X R0 H0 W sts (evK γ c)
theorem OkS.mk' {c : Ks} {X : Cx} {s : Sx} {W : WX} {f : Stmt → Bool} (hc : chkK g c s = mkS f) (h : ∀ st, f st = true → OS X R0 H0 W st (evK γ c)) : OkS γ g c X s W R0 H0 := by
  refine ⟨fun st q => ?_, fun sts q => ?_⟩
  · rw [hc] at q
    exact h st q
  · rw [hc] at q
    match sts, q with
    | [st], q => exact ss_one (h st q)
    | [], q => cases q
    | _ :: _ :: _, q => cases q
theorem slot_get {X : Cx} {s : Sx} {W : WX} {k i : Nat} {x : Str} (G : Good γ g X s W k) (h : slot s i x = true) : X.N[i]? = some x ∧ (x == ("__debug__" : Str)) = false ∧ (x == ("__classdict__" : Str)) = false := by
  obtain ⟨h1, h2⟩ := G.slot h
  obtain ⟨p1, p2, _⟩ := plainN_ok h2
  exact ⟨h1, p1, p2⟩
theorem atC_ok {X : Cx} {s : Sx} {W : WX} {k i : Nat} (G : Good γ g X s W k) : ∀ {fs : List String} {es : List Expr}, atC s i fs es = true → Atts X i fs es
  | [], [], _ => .nil
  | [], _ :: _, h => by simp [atC] at h
  | _ :: _, [], h => by simp [atC] at h
  | f :: fs, e :: es, h => by
    cases e with
    | Attribute o n p =>
      cases o with
      | Name x xp =>
        have h : (slot s i x && vis s x && decide (n = Str.ofString f) && atC s i fs es) = true := h
        simp only [Bool.and_eq_true, decide_eq_true_eq] at h
        obtain ⟨⟨⟨h1, h2⟩, h3⟩, h4⟩ := h
        subst h3
        obtain ⟨q1, q2, q3⟩ := slot_get G h1
        exact .cons q1 (G.vis h2) q2 q3 (atC_ok G h4)
      | _ => simp [atC] at h
    | _ => simp [atC] at h
/-- an assignment of a comprehension -/
theorem s_asgLc {X : Cx} {s : Sx} {W : WX} {k i : Nat} {x : Str} {px pos : Pos} {e : E} {v : Expr} (G : GoodS γ g X s W k) (hs : slot s i x = true) (hl : loc s x = true) (hv : (chk g e s).e v = true) (hk' : (isLc v && isLcO e) = true) : OS X R0 H0 W (.Assign [.Name x px] v pos) (sAsg i (ev γ e).e) := by
  obtain ⟨hk, he⟩ := Bool.and_eq_true_iff.mp hk'
  obtain ⟨hi, _, _⟩ := slot_get G.toGood hs
  cases v with
  | ListComp elt gens scope lp =>
    have hsw : swapsWith (.ListComp elt gens scope lp) (some (.Name x px)) pos.line X.env = pure (X.env.blockKind == .function && X.env.kindOf x == some .local && px.line == lp.line && !(scope.names.any fun (n, k) => n == x && (k == .local || k == .cell))) := rfl
    cases kf : (X.env.blockKind == .function && X.env.kindOf x == some .local && px.line == lp.line && !(scope.names.any fun (n, k) => n == x && (k == .local || k == .cell))) with
    | false =>
      rw [kf] at hsw
      exact s_asg G.nd hi (G.loc hl) ((okE e X s W k G.toGood).e _ hv) hsw (G.fn x)
    | true =>
      rw [kf] at hsw
      have hlx : X.env.scope.names.lookup x = some .local := by
        simp only [Bool.and_eq_true, beq_iff_eq] at kf
        exact kf.1.1.2
      cases e with
      | lc tg vs it t el =>
        obtain ⟨target, iter, ifs, wi, rfl, hvs, hpi, hit, hblk, hg, ht, hel, hns, hvs'⟩ := lc_parts (R0 := R0) (H0 := H0) (okE it) (okE t) (okE el) G.toGood hv
        refine PSi (ps_setLc G.calm G.nd hi hlx hsw hpi hblk hg ht hel (noSet_fold hns _)) fun D σ H h => ?_
        have q := asg_read h
        unfold tAsg at q ⊢
        rw [hvs]
        exact lc_read hit (tg_read tg) hvs' q
      | olc tg vs it t el =>
        obtain ⟨target, iter, ifs, wi, rfl, hvs, hpi, hit, hblk, hg, ht, hel, hns, hvs'⟩ := lc_parts (R0 := R0) (H0 := H0) (okE it) (okE t) (okE el) G.toGood (show (chk g (.lc tg vs it t el) s).e (.ListComp elt gens scope lp) = true from hv)
        refine PSi (ps_setLc G.calm G.nd hi hlx hsw hpi hblk hg ht hel (noSet_fold hns _)) fun D σ H h => ?_
        have q := asg_read h
        unfold tAsg at q ⊢
        rw [hvs]
        exact olc_read hit (tg_read tg) hvs' q
      | _ => cases he
  | _ => cases hk

theorem s_ownLc {X : Cx} {s : Sx} {W : WX} {k i : Nat} {x : Str} {px pos : Pos} {e : E} {v : Expr} (G : GoodS γ g X s W k) (hs : slot s i x = true) (hl : loc s x = true) (hv : (chk g e s).e v = true) (hk' : (isLc v && isLcE e) = true) : OS X R0 H0 W (.Assign [.Name x px] v pos) (sOwnC i (ev γ e).e) := by
  obtain ⟨hk, he⟩ := Bool.and_eq_true_iff.mp hk'
  obtain ⟨hi, _, _⟩ := slot_get G.toGood hs
  cases v with
  | ListComp elt gens scope lp =>
    have hsw : swapsWith (.ListComp elt gens scope lp) (some (.Name x px)) pos.line X.env = pure (X.env.blockKind == .function && X.env.kindOf x == some .local && px.line == lp.line && !(scope.names.any fun (n, k) => n == x && (k == .local || k == .cell))) := rfl
    cases e with
    | lc tg vs it t el =>
      obtain ⟨target, iter, ifs, wi, rfl, hvs, hpi, hit, hblk, hg, ht, hel, hns, hvs'⟩ := lc_parts (R0 := R0) (H0 := H0) (okE it) (okE t) (okE el) G.toGood hv
      cases kf : (X.env.blockKind == .function && X.env.kindOf x == some .local && px.line == lp.line && !(scope.names.any fun (n, k) => n == x && (k == .local || k == .cell))) with
      | false =>
        rw [kf] at hsw
        refine PSi (ps_set G.nd hi (G.loc hl) (pe_lc G.calm G.nd hpi hblk hg ht hel (noSet_fold hns _)) hsw (.inl (G.fn x))) fun D σ H h => ?_
        have q := ownC_read hit (tg_read tg) hvs' h
        unfold tAsg at q
        rw [hvs]
        exact q
      | true =>
        rw [kf] at hsw
        have hlx : X.env.scope.names.lookup x = some .local := by
          simp only [Bool.and_eq_true, beq_iff_eq] at kf
          exact kf.1.1.2
        refine PSi (ps_setLc G.calm G.nd hi hlx hsw hpi hblk hg ht hel (noSet_fold hns _)) fun D σ H h => ?_
        have q := ownC_read hit (tg_read tg) hvs' h
        unfold tAsg at q ⊢
        rw [hvs]
        exact q
    | _ => cases he
  | _ => cases hk
theorem ka {a b : Bool} (h : (a && b) = true) : a = true ∧ b = true := Bool.and_eq_true_iff.mp h
theorem okK (c : Ks) : ∀ (X : Cx) (s : Sx) (W : WX) (k : Nat), GoodS γ g X s W k → OkS γ g c X s W R0 H0 := by
  induction c with
  | skip =>
    intro X s W k G
    refine ⟨fun st h => ?_, fun sts h => ?_⟩
    · cases st with
      | Pass p => exact s_pass
      | _ => cases h
    · cases sts with
      | nil => exact ss_nil
      | cons _ _ => cases h
  | seq a b iha ihb =>
    intro X s W k G
    refine ⟨fun st h => (by cases h), fun sts h => ?_⟩
    cases sts with
    | nil => cases h
    | cons st rest =>
      obtain ⟨h1, h2⟩ := ka (show ((chkK g a s).s st && (chkK g b s).l rest) = true from h)
      exact ss_cons ((iha X s W k G).o st h1) ((ihb X s W k G).l rest h2)
  | asg i e =>
    intro X s W k G
    refine OkS.mk' rfl fun st h => ?_
    cases st with
    | Assign ts v pos =>
      match ts, h with
      | [.Name x px], h =>
        have h : (slot s i x && loc s x && (chk g e s).e v && (noLc v || (isLc v && isLcO e))) = true := h
        obtain ⟨h, h4⟩ := ka h
        obtain ⟨h, h3⟩ := ka h
        obtain ⟨h1, h2⟩ := ka h
        rcases Bool.or_eq_true_iff.mp h4 with h4 | h4
        · obtain ⟨hi, _, _⟩ := slot_get G.toGood h1
          exact s_asg G.nd hi (G.loc h2) ((okE e X s W k G.toGood).e v h3) (swaps_ok h4 _ _ _) (G.fn x)
        · exact s_asgLc G h1 h2 h3 h4
    | _ => cases h
  | ownL i l =>
    intro X s W k G
    refine OkS.mk' rfl fun st h => ?_
    cases st with
    | Assign ts v pos =>
      match ts, v, h with
      | [.Name x px], .List es lp, h =>
        have h : (slot s i x && loc s x && (chk g l s).a es) = true := h
        obtain ⟨h, h3⟩ := ka h
        obtain ⟨h1, h2⟩ := ka h
        obtain ⟨hi, _, _⟩ := slot_get G.toGood h1
        exact s_ownL G.nd hi (G.loc h2) ((okE l X s W k G.toGood).a es h3) (G.fn x)
    | _ => cases h
  | app i e =>
    intro X s W k G
    refine OkS.mk' rfl fun st h => ?_
    cases st with
    | Expr v pos =>
      match v, h with
      | .Call (.Attribute (.Name x xp) m apos) [v] [] p, h =>
        have h : (slot s i x && vis s x && decide (m = ("append" : Str)) && !isStar v && (apos.endLine == p.line) && (chk g e s).e v) = true := h
        obtain ⟨h, h6⟩ := ka h
        obtain ⟨h, h5⟩ := ka h
        obtain ⟨h, h4⟩ := ka h
        obtain ⟨h, h3⟩ := ka h
        obtain ⟨h1, h2⟩ := ka h
        have h3 : m = ("append" : Str) := of_decide_eq_true h3
        subst h3
        obtain ⟨hi, hd, hcd⟩ := slot_get G.toGood h1
        exact s_app hi (G.vis h2) hd hcd ((okE e X s W k G.toGood).e v h6) (star_cons (by simpa using h4) [] _) h5
    | _ => cases h
  | setO i ke e =>
    intro X s W k G
    refine OkS.mk' rfl fun st h => ?_
    cases st with
    | Assign ts v pos =>
      match ts, h with
      | [.Subscript (.Name x xp) kx p'], h =>
        have h : (slot s i x && vis s x && !isSlice kx && noLc v && (chk g ke s).e kx && (chk g e s).e v) = true := h
        obtain ⟨h, h6⟩ := ka h
        obtain ⟨h, h5⟩ := ka h
        obtain ⟨h, h4⟩ := ka h
        obtain ⟨h, h3⟩ := ka h
        obtain ⟨h1, h2⟩ := ka h
        obtain ⟨hi, hd, hcd⟩ := slot_get G.toGood h1
        have h3 : isSlice kx = false := by simpa using h3
        refine s_setO hi (G.vis h2) hd hcd ((okE e X s W k G.toGood).e v h6) ((okE ke X s W k G.toGood).e kx h5) (fun {to ti t} q1 q2 q3 => pg_sub q1 q2 q3 fun v => ?_) (Eq.trans (b := swapsWith v (some (.Subscript (.Name x xp) kx p')) pos.line X.env) rfl (swaps_ok h4 _ _ _)) rfl
        cases kx with
        | Slice _ _ _ _ => cases h3
        | _ => rfl
    | _ => cases h
  | asgT is e =>
    intro X s W k G
    refine OkS.mk' rfl fun st h => ?_
    cases st with
    | Assign ts v pos =>
      match ts, h with
      | [.Tuple es j p], h =>
        have h : (tgC s (.many is) (.Tuple es j p) && noLc v && noTup v && (chk g e s).e v) = true := h
        obtain ⟨h, h4⟩ := ka h
        obtain ⟨h, h3⟩ := ka h
        obtain ⟨h1, h2⟩ := ka h
        refine s_asgT (ts := is) (tg_read (X := X) (.many is)) ((okE e X s W k G.toGood).e v h4) (tg_ok G.N G.nd G.calm (fun x hx => G.loc hx) (fun i x _ _ _ => .inl (G.fn x)) h1) (Eq.trans (b := swapsWith v (some (.Tuple es j p)) pos.line X.env) rfl (swaps_ok h2 _ _ _)) ?_ rfl
        cases v with
        | Tuple _ _ _ => cases h3
        | _ => rfl
    | _ => cases h
  | par i j l =>
    intro X s W k G
    refine OkS.mk' rfl fun st h => ?_
    cases st with
    | Assign ts v pos =>
      match ts, v, h with
      | [.Tuple [.Name x px, .Name y py] kt pt], .Tuple [a, b] k2 p2, h =>
        have h : (slot s i x && slot s j y && !(i == j) && decide (s.names.lookup x = some .local) && decide (s.names.lookup y = some .local) && (px.line == py.line) && !(x == y) && !isStar a && !isStar b
          && !(foldedForSure 8 a && foldedForSure 8 b) && !(constantsAlone 8 a && constantsAlone 8 b) && (chk g l s).a [a, b]) = true := h
        obtain ⟨h, q12⟩ := ka h
        obtain ⟨h, q11⟩ := ka h
        obtain ⟨h, q10⟩ := ka h
        obtain ⟨h, q9⟩ := ka h
        obtain ⟨h, q8⟩ := ka h
        obtain ⟨h, q7⟩ := ka h
        obtain ⟨h, q6⟩ := ka h
        obtain ⟨h, q5⟩ := ka h
        obtain ⟨h, q4⟩ := ka h
        obtain ⟨h, q3⟩ := ka h
        obtain ⟨q1, q2⟩ := ka h
        obtain ⟨hi, _, _⟩ := slot_get G.toGood q1
        obtain ⟨hj, _, _⟩ := slot_get G.toGood q2
        have q4 : X.env.scope.names.lookup x = some .local := by rw [G.names]; exact of_decide_eq_true q4
        have q5 : X.env.scope.names.lookup y = some .local := by rw [G.names]; exact of_decide_eq_true q5
        refine s_par G.calm G.nd hi hj (by simpa using q3) q4 q5 ((okE l X s W k G.toGood).a _ q12) ?_
        exact par_stores G.kind q4 q5 q6 (by simpa using q7) (by simpa using q8) (by simpa using q9) (Bool.not_eq_true' _ |>.mp q10) (Bool.not_eq_true' _ |>.mp q11)
    | _ => cases h
  | setF o f e =>
    intro X s W k G
    refine OkS.mk' rfl fun st h => ?_
    cases st with
    | Assign ts v pos =>
      match ts, h with
      | [.Attribute a n p], h =>
        have h : (decide (n = Str.ofString f) && (noLc v || isLc v) && (chk g o s).e a && (chk g e s).e v) = true := h
        obtain ⟨h, h4⟩ := ka h
        obtain ⟨h, h3⟩ := ka h
        obtain ⟨h1, h2⟩ := ka h
        have h1 : n = Str.ofString f := of_decide_eq_true h1
        subst h1
        refine s_fld ((okE o X s W k G.toGood).e a h3) ((okE e X s W k G.toGood).e v h4) ?_ fun c C hc hm => G.tab.fld c f C hc hm
        rcases Bool.or_eq_true _ _ |>.mp h2 with h2 | h2
        · exact swaps_ok h2 _ _ _
        · exact swaps_lcA h2 _ _ _ _
    | _ => cases h
  | expr e =>
    intro X s W k G
    refine OkS.mk' rfl fun st h => ?_
    cases st with
    | Expr v pos =>
      obtain ⟨h1, h2⟩ := ka (show (noLc v && (chk g e s).e v) = true from h)
      exact s_expr ((okE e X s W k G.toGood).e v h2) (swaps_ok h1 _ _ _)
    | _ => cases h
  | ife c a b iha ihb =>
    intro X s W k G
    refine OkS.mk' rfl fun st h => ?_
    cases st with
    | If v t u pos =>
      have h : ((chk g c s).t v && (chkK g a s).l t && (chkK g b s).l u) = true := h
      obtain ⟨h, h3⟩ := ka h
      obtain ⟨h1, h2⟩ := ka h
      exact s_if ((okE c X s W k G.toGood).t v h1) ((iha X s W k G).l t h2) ((ihb X s W k G).l u h3)
    | _ => cases h
  | whl c b ih =>
    intro X s W k G
    refine OkS.mk' rfl fun st h => ?_
    cases st with
    | While v t u pos =>
      match u, h with
      | [], h =>
        obtain ⟨h1, h2⟩ := ka (show ((chk g c s).t v && (chkK g b s).l t) = true from h)
        exact s_while G.own ((okE c X s W k G.toGood).t v h1) ((ih X s W k G).l t h2)
    | _ => cases h
  | for_ tg it b ih =>
    intro X s W k G
    refine OkS.mk' rfl fun st h => ?_
    cases st with
    | For v w t u pos =>
      match u, h with
      | [], h =>
        have h : (tgC s tg v && (chk g it s).i w && noSet w && (chkK g b s).l t) = true := h
        obtain ⟨h, h4⟩ := ka h
        obtain ⟨h, h3⟩ := ka h
        obtain ⟨h1, h2⟩ := ka h
        obtain ⟨wi, hpi, hit⟩ := (okE (R0 := R0) (H0 := H0) it X s W k G.toGood).i v w h2
        exact s_for G.own G.calm hpi hit (tg_ok G.N G.nd G.calm (fun x hx => G.loc hx) (fun i x _ _ _ => .inl (G.fn x)) h1) (fun R S H env env1 σ w v Q A r e q => tg_read (X := X) tg R S H env env1 σ w v Q A r e fun σ' A' _ => q σ' A') ((ih X s W k G).l t h4) (noSet_fold h3 _)
    | _ => cases h
  | ret e =>
    intro X s W k G
    refine OkS.mk' rfl fun st h => ?_
    cases st with
    | Return v pos =>
      match v, h with
      | some v, h => exact s_ret ((okE e X s W k G.toGood).e v h)
      | none, h => cases h
    | _ => cases h
  | retN =>
    intro X s W k G
    refine OkS.mk' rfl fun st h => ?_
    cases st with
    | Return v pos =>
      match v, h with
      | none, h => exact s_retN
      | some v, h => cases h
    | _ => cases h
  | raise c =>
    intro X s W k G
    refine OkS.mk' rfl fun st h => ?_
    cases st with
    | Raise v u pos =>
      match v, u, h with
      | some (.Call (.Name x p) [.Constant (.str m) j p2] [] pos'), none, h =>
        have h : (decide (x = Str.ofString c) && glb s x && g.exc.contains c) = true := h
        obtain ⟨h, h3⟩ := ka h
        obtain ⟨h1, h2⟩ := ka h
        have h1 : x = Str.ofString c := of_decide_eq_true h1
        subst h1
        obtain ⟨g1, g2⟩ := G.gl h2
        obtain ⟨p1, _, _⟩ := plainN_ok g2
        obtain ⟨C, e1, e2, e3, e4, e5⟩ := G.tab.exc c (by simpa using h3)
        refine PSi (ps_raise G.calm G.takes (pmk_own PySem.F.excBase_ValueError e2 e1 e3 (raises_own e4 e5) g1 p1)) fun D σ H h => ?_
        obtain ⟨R, S, env, A, h⟩ := h
        exact h R H σ (.ref C) none A (RLe.refl R) ⟨C, e1, rfl, rfl⟩
    | _ => cases h
  | frzS i c ih =>
    intro X s W k G
    refine OkS.mk' rfl fun st h => ?_
    exact s_frzS ((ih X s W k G).o st h)
  | ownK i e =>
    intro X s W k G
    refine OkS.mk' rfl fun st h => ?_
    cases st with
    | Assign ts v pos =>
      match ts, v, h with
      | [.Name x px], .Call (.Name y py) [v] [] cp, h =>
        have h : (slot s i x && loc s x && decide (y = Str.ofString "list") && glb s y && g.free.contains "list" && !isStar v && (chk g e s).e v) = true := h
        simp only [Bool.and_eq_true, List.contains_iff_mem, decide_eq_true_eq, Bool.not_eq_true'] at h
        obtain ⟨⟨⟨⟨⟨⟨h1, h2⟩, h3⟩, h4⟩, h5⟩, h6⟩, h7⟩ := h
        subst h3
        obtain ⟨hi, _, _⟩ := slot_get G.toGood h1
        exact s_ownK G.nd hi (G.loc h2) (G.gl h4).1 (G.tab.free _ h5) ((okE e X s W k G.toGood).e v h7) (star_cons h6 [] _) (G.fn x)
    | _ => cases h
  | raiseI c e =>
    intro X s W k G
    refine OkS.mk' rfl fun st h => ?_
    show OS X R0 H0 W st (sRaiG (γ.exi c) c (ev γ e).e)
    unfold sRaiG
    by_cases q : γ.exi c = true
    · rw [if_pos q]
      cases st with
      | Raise v u pos =>
        match v, u, h with
        | some (.Call (.Name x p) [y] [] pos'), none, h =>
          have h : (decide (x = Str.ofString c) && glb s x && !isStar y && (chk g e s).e y) = true := h
          simp only [Bool.and_eq_true, decide_eq_true_eq, Bool.not_eq_true'] at h
          obtain ⟨⟨⟨h1, h2⟩, h3⟩, h4⟩ := h
          subst h1
          obtain ⟨g1, g2⟩ := G.gl h2
          obtain ⟨p1, _, _⟩ := plainN_ok g2
          exact s_raiI G.calm G.takes (G.tab.exi c q) G.room g1 p1 ((okE e X s W k G.toGood).e y h4) (star_cons h3 [] _)
      | _ => cases h
    · rw [if_neg q]
      exact ⟨fun pins s σ H D I h => by
        obtain ⟨R, S, env, A, h⟩ := h
        exact h.elim⟩
  | tryW t i j b ih =>
    intro X s W k G
    refine OkS.mk' rfl fun st h => ?_
    cases st with
    | Try body hs orelse fin pos =>
      match hs, orelse, fin, h with
      | [hd], [], [], h =>
        have h' : (match wOf hd with
          | some (x, n, m) => decide (x = Str.ofString t) && glb s x && g.wrd.contains t && slot s i n && decide (s.names.lookup n = some .local) && slot s j m && decide (s.names.lookup m = some .local) && decide (i ≠ j) && (chkK g b s).l body
          | none => false) = true := h
        clear h
        cases q1 : wOf hd with
        | none => rw [q1] at h'; cases h'
        | some y =>
        obtain ⟨x, n, m⟩ := y
        rw [q1] at h'
        obtain ⟨np, mp, vp, fp, ap, pos', rfl⟩ := wOf_eq q1
        have h : (decide (x = Str.ofString t) && glb s x && g.wrd.contains t && slot s i n && decide (s.names.lookup n = some .local) && slot s j m && decide (s.names.lookup m = some .local) && decide (i ≠ j) && (chkK g b s).l body) = true := h'
        simp only [Bool.and_eq_true, decide_eq_true_eq, List.contains_iff_mem] at h
        obtain ⟨⟨⟨⟨⟨⟨⟨⟨h1, h2⟩, h3⟩, h4⟩, h5⟩, h6⟩, h7⟩, h8⟩, h9⟩ := h
        subst h1
        obtain ⟨g1, g2⟩ := G.gl h2
        obtain ⟨p1, _, _⟩ := plainN_ok g2
        obtain ⟨T, hT, Wd⟩ := G.tab.wrd t h3
        obtain ⟨hi, hd1, hd2⟩ := slot_get G.toGood h4
        obtain ⟨hj, _, _⟩ := slot_get G.toGood h6
        refine s_tryW G.tab.sub G.stk G.frm G.nd hi (by rw [G.names]; exact h5) hj (by rw [G.names]; exact h7) h8 hd1 hd2 g1 p1 hT Wd G.takes fun W' pn xe tk own => ?_
        exact (ih (X.tr pn xe) s W' k ⟨⟨G.N, G.names, G.kind, G.nd, G.calm, tk, G.tab, G.room⟩, G.fn, own, G.stk, G.frm, G.ex0⟩).l body h9
    | _ => cases h
  | ext i e =>
    intro X s W k G
    refine OkS.mk' rfl fun st h => ?_
    cases st with
    | Expr v pos =>
      match v, h with
      | .Call (.Attribute (.Name x xp) m apos) [v] [] p, h =>
        have h : (slot s i x && vis s x && decide (m = ("extend" : Str)) && !isStar v && (apos.endLine == p.line) && (chk g e s).e v) = true := h
        simp only [Bool.and_eq_true, decide_eq_true_eq, Bool.not_eq_true'] at h
        obtain ⟨⟨⟨⟨⟨h1, h2⟩, h3⟩, h4⟩, h5⟩, h6⟩ := h
        subst h3
        obtain ⟨hi, hd, hcd⟩ := slot_get G.toGood h1
        exact s_ext hi (G.vis h2) hd hcd ((okE e X s W k G.toGood).e v h6) (star_cons h4 [] _) h5
    | _ => cases h
  | lk p c ih =>
    intro X s W k G
    refine OkS.mk' rfl fun st h => ?_
    exact s_lk ((ih X s W k G).o st h)
  | frz i c ih =>
    intro X s W k G
    refine OkS.mk' rfl fun st h => ?_
    exact s_frz ((ih X s W k G).o st h)
  | kept t i j b ih =>
    intro X s W k G
    refine OkS.mk' rfl fun st h => ?_
    cases st with
    | Try body hs orelse fin pos =>
      match hs, orelse, fin, h with
      | [hd], [], [], h =>
        have h : (match hOf hd with
          | some (x, n, sb) => (match aOf sb with
            | some (m, n') => decide (x = Str.ofString t) && glb s x && g.cls.contains t && decide (n' = n) && slot s i n && decide (s.names.lookup n = some .local) && slot s j m && decide (s.names.lookup m = some .local) && (chkK g b s).l body
            | none => false)
          | none => false) = true := h
        cases q1 : hOf hd with
        | none => rw [q1] at h; cases h
        | some y =>
        obtain ⟨x, n, sb⟩ := y
        rw [q1] at h
        have h : (match aOf sb with
            | some (m, n') => decide (x = Str.ofString t) && glb s x && g.cls.contains t && decide (n' = n) && slot s i n && decide (s.names.lookup n = some .local) && slot s j m && decide (s.names.lookup m = some .local) && (chkK g b s).l body
            | none => false) = true := h
        cases q2 : aOf sb with
        | none => rw [q2] at h; cases h
        | some y =>
        obtain ⟨m, n'⟩ := y
        rw [q2] at h
        obtain ⟨np, pos', rfl⟩ := hOf_eq q1
        obtain ⟨mp, vp, ap, rfl⟩ := aOf_eq q2
        have h : (decide (x = Str.ofString t) && glb s x && g.cls.contains t && decide (n' = n) && slot s i n && decide (s.names.lookup n = some .local) && slot s j m && decide (s.names.lookup m = some .local) && (chkK g b s).l body) = true := h
        obtain ⟨h, h9⟩ := ka h
        obtain ⟨h, h8⟩ := ka h
        obtain ⟨h, h7⟩ := ka h
        obtain ⟨h, h6⟩ := ka h
        obtain ⟨h, h5⟩ := ka h
        obtain ⟨h, h4⟩ := ka h
        obtain ⟨h, h3⟩ := ka h
        obtain ⟨h1, h2⟩ := ka h
        have h1 : x = Str.ofString t := of_decide_eq_true h1
        subst h1
        have h4 : n' = n := of_decide_eq_true h4
        subst h4
        obtain ⟨g1, g2⟩ := G.gl h2
        obtain ⟨p1, _, _⟩ := plainN_ok g2
        obtain ⟨T, hT⟩ := G.tab.cls t (by simpa using h3)
        obtain ⟨hi, hd1, hd2⟩ := slot_get G.toGood h5
        obtain ⟨hj, _, _⟩ := slot_get G.toGood h7
        refine s_kept G.tab.sub G.stk G.frm G.nd hi (by rw [G.names]; exact of_decide_eq_true h6) hj (by rw [G.names]; exact of_decide_eq_true h8) G.ex0 hd1 hd2 g1 p1 hT G.takes fun W' pn xe tk own => ?_
        exact (ih (X.tr pn xe) s W' k ⟨⟨G.N, G.names, G.kind, G.nd, G.calm, tk, G.tab, G.room⟩, G.fn, own, G.stk, G.frm, G.ex0⟩).l body h9
    | _ => cases h
  | setS o ke e =>
    intro X s W k G
    refine OkS.mk' rfl fun st h => ?_
    cases st with
    | Assign ts v pos =>
      match ts, h with
      | [.Subscript x kx p'], h =>
        have h : (!isSlice kx && noLc v && (chk g o s).e x && (chk g ke s).e kx && (chk g e s).e v) = true := h
        obtain ⟨h, h5⟩ := ka h
        obtain ⟨h, h4⟩ := ka h
        obtain ⟨h, h3⟩ := ka h
        obtain ⟨h1, h2⟩ := ka h
        have h1 : isSlice kx = false := by simpa using h1
        refine s_setS ((okE o X s W k G.toGood).e x h3) ((okE ke X s W k G.toGood).e kx h4) ((okE e X s W k G.toGood).e v h5) (fun {to ti t} q1 q2 q3 => pg_sub q1 q2 q3 fun v => ?_) (Eq.trans (b := swapsWith v (some (.Subscript x kx p')) pos.line X.env) rfl (swaps_ok h2 _ _ _)) rfl
        cases kx with
        | Slice _ _ _ _ => cases h1
        | _ => rfl
    | _ => cases h
  | tryN t j b ih =>
    intro X s W k G
    refine OkS.mk' rfl fun st h => ?_
    cases st with
    | Try body hs orelse fin pos =>
      match hs, orelse, fin, h with
      | [hd], [], [], h =>
        have h : (match nOf hd with
          | some (x, m) => decide (x = Str.ofString t) && glb s x && g.cls.contains t && slot s j m && loc s m && (chkK g b s).l body
          | none => false) = true := h
        cases q1 : nOf hd with
        | none => rw [q1] at h; cases h
        | some y =>
        obtain ⟨x, m⟩ := y
        rw [q1] at h
        obtain ⟨np, mp, cp, ap, pos', k', rfl⟩ := nOf_eq q1
        have h : (decide (x = Str.ofString t) && glb s x && g.cls.contains t && slot s j m && loc s m && (chkK g b s).l body) = true := h
        obtain ⟨h, h6⟩ := ka h
        obtain ⟨h, h5⟩ := ka h
        obtain ⟨h, h4⟩ := ka h
        obtain ⟨h, h3⟩ := ka h
        obtain ⟨h1, h2⟩ := ka h
        have h1 : x = Str.ofString t := of_decide_eq_true h1
        subst h1
        obtain ⟨g1, g2⟩ := G.gl h2
        obtain ⟨p1, _, _⟩ := plainN_ok g2
        obtain ⟨T, hT⟩ := G.tab.cls t (by simpa using h3)
        obtain ⟨hj, _, _⟩ := slot_get G.toGood h4
        refine s_tryN G.tab.sub G.stk G.frm G.nd hj (G.loc h5) (G.fn m) g1 p1 hT G.takes fun W' pn xe tk own => ?_
        exact (ih (X.tr pn xe) s W' k ⟨⟨G.N, G.names, G.kind, G.nd, G.calm, tk, G.tab, G.room⟩, G.fn, own, G.stk, G.frm, G.ex0⟩).l body h6
    | _ => cases h
  | putD o ke e =>
    intro X s W k G
    refine OkS.mk' rfl fun st h => ?_
    cases st with
    | Assign ts v pos =>
      match ts, h with
      | [.Subscript x kx p'], h =>
        have h : (noLc v && (chk g o s).e x && (chk g ke s).e kx && (chk g e s).e v) = true := h
        obtain ⟨h, h4⟩ := ka h
        obtain ⟨h, h3⟩ := ka h
        obtain ⟨h1, h2⟩ := ka h
        exact s_putD (by have := G.toGood.hu; omega) ((okE o X s W k G.toGood).e x h2) ((okE ke X s W k G.toGood).e kx h3) ((okE e X s W k G.toGood).e v h4) (swaps_ok h1 _ _ _)
    | _ => cases h
  | ownC i e =>
    intro X s W k G
    refine OkS.mk' rfl fun st h => ?_
    cases st with
    | Assign ts v pos =>
      match ts, h with
      | [.Name x px], h =>
        have h : (slot s i x && loc s x && (chk g e s).e v && (isLc v && isLcE e)) = true := h
        obtain ⟨h, h4⟩ := ka h
        obtain ⟨h, h3⟩ := ka h
        obtain ⟨h1, h2⟩ := ka h
        exact s_ownLc G h1 h2 h3 h4
    | _ => cases h
  | asgA i fs e =>
    intro X s W k G
    refine OkS.mk' rfl fun st h => ?_
    cases st with
    | Assign ts v pos =>
      match ts, h with
      | [.Tuple es j p], h =>
        have h : (atC s i fs es && noLc v && noTup v && (chk g e s).e v) = true := h
        obtain ⟨h, h4⟩ := ka h
        obtain ⟨h, h3⟩ := ka h
        obtain ⟨h1, h2⟩ := ka h
        refine s_asgA G.calm (fun c f C hc hm => G.tab.fld c f C hc hm) (atC_ok G.toGood h1) ((okE e X s W k G.toGood).e v h4) (Eq.trans (b := swapsWith v (some (.Tuple es j p)) pos.line X.env) rfl (swaps_ok h2 _ _ _)) ?_ rfl
        cases v with
        | Tuple _ _ _ => cases h3
        | _ => rfl
    | _ => cases h
end
end Mi
end
section
/-! Mi, part N: a whole text: its defs, its tables, what the head must tell of it; every def keeps its promise. -/
namespace Mi
open PySem PySem.Spec PyProof.Rows L2

/-! ### parameters -/
theorem lookup_zip_mem {α : Type} {n : Str} : ∀ {ps : List Str} {us : List α}, us.length = ps.length → n ∈ ps → (List.lookup n (ps.zip us)).isSome = true
  | [], _, _, h => by cases h
  | p :: ps, [], hl, _ => by cases hl
  | p :: ps, u :: us, hl, h => by
    rw [List.zip_cons_cons, List.lookup_cons]
    by_cases c : n = p
    · subst c
      rw [beq_self_eq_true]
      rfl
    · rw [beq_eq_false_iff_ne.mpr c]
      exact lookup_zip_mem (by simpa using hl) ((List.mem_cons.mp h).resolve_left c)
theorem filterMap_zip {α : Type} : ∀ {ps : List Str} {us : List α} (f : Str → Option α), ps.Nodup → us.length = ps.length → (∀ n ∈ ps, f n = List.lookup n (ps.zip us)) → ps.filterMap (fun n => (f n).map (n, ·)) = ps.zip us
  | [], us, f, _, hl, _ => by
    cases us with
    | nil => rfl
    | cons _ _ => cases hl
  | p :: ps, [], f, _, hl, _ => by cases hl
  | p :: ps, u :: us, f, hn, hl, h => by
    have h1 := h p List.mem_cons_self
    rw [List.zip_cons_cons, List.lookup_cons, beq_self_eq_true] at h1
    rw [List.filterMap_cons, h1, List.zip_cons_cons]
    have hn2 := List.nodup_cons.mp hn
    show (p, u) :: _ = _
    rw [filterMap_zip (us := us) f hn2.2 (by simpa using hl) fun n hm => ?_]
    have := h n (List.mem_cons_of_mem _ hm)
    rw [List.zip_cons_cons, List.lookup_cons] at this
    have ne : n ≠ p := fun z => hn2.1 (z ▸ hm)
    rw [beq_eq_false_iff_ne.mpr ne] at this
    exact this
def plainArgs (a : Arguments) : Bool := a.posonlyargs.isEmpty && a.kwonlyargs.isEmpty && a.vararg.isNone && a.kwarg.isNone
def sV (s : String) : Va := .str (s.toList.map Char.toNat)
def parsOf (a : Arguments) : List Str := a.args.map (·.arg)
theorem bind_plain {fd : FuncData} (hp : plainArgs fd.params = true) (hn : (parsOf fd.params).Nodup) (hd : fd.defaults = .none) {us : List Value} (hl : us.length = (parsOf fd.params).length) : bindArgs fd ⟨us, []⟩ = pure ((parsOf fd.params).zip us) := by
  unfold plainArgs at hp
  simp only [Bool.and_eq_true, List.isEmpty_iff, Option.isNone_iff_eq_none] at hp
  obtain ⟨⟨⟨h1, h2⟩, h3⟩, h4⟩ := hp
  have hl2 : us.length = (fd.params.args.map (·.arg)).length := hl
  have f0 : ((fd.params.args.map (·.arg)).filter fun n => (List.lookup n ((fd.params.args.map (·.arg)).zip us)).isNone) = [] := by
    rw [List.filter_eq_nil_iff]
    intro n hm
    have := lookup_zip_mem hl2 hm
    cases q : List.lookup n ((fd.params.args.map (·.arg)).zip us) with
    | none => rw [q] at this; cases this
    | some _ => simp
  have f1 := filterMap_zip (us := us) (fun n => List.lookup n ((fd.params.args.map (·.arg)).zip us)) hn hl2 (fun n _ => rfl)
  have f1 : (fd.params.args.map (·.arg)).filterMap (fun n => (List.lookup n ((fd.params.args.map (·.arg)).zip us)).map (n, ·)) = (fd.params.args.map (·.arg)).zip us := f1
  have hs : seqItems? fd.defaults = pure none := by rw [hd]; rfl
  show bindArgs fd ⟨us, []⟩ = pure ((fd.params.args.map (·.arg)).zip us)
  unfold bindArgs
  simp only [h1, h2, h3, h4, hs, List.map_nil, List.nil_append]
  generalize fd.params.args.map (·.arg) = L at *
  have hlt : ¬ (L.length < us.length) := by omega
  simp [hl2, f0, f1]

/-! ### a text -/
/-- a def: its name or its class and its own name; its tree; its names, parameters ahead; its term -/
structure Dx where
  key : String
  m : Option String
  st : Stmt
  N : List Str
  np : Nat
  k : Ks
  nm : Option String
def dname (s : Stmt) : Str := match s with
  | .FunctionDef n _ _ _ _ _ _ _ _ _ => n
  | _ => ("" : Str)
def Dx.at_ (d : Dx) : Str × Option Str := (Str.ofString d.key, d.m.map Str.ofString)
def Dx.qual (d : Dx) : Str := match d.m with
  | none => Str.ofString (d.nm.getD d.key)
  | some m => Str.ofString (d.key ++ "." ++ m)
def Dx.ps (d : Dx) : List Str := parsOf (defArgs d.st)
def Dx.sx (d : Dx) : Sx := { N := d.N, names := (defScope d.st).names }
def Dx.toD (d : Dx) : He.DefD := ⟨d.at_, dname d.st, d.qual, defArgs d.st, defBody d.st, defScope d.st, [], []⟩
def fscB (N ps : List Str) (sc : Scope) : Bool := decide (sc.kind = .function) && !sc.isCoroutine && !sc.isGenerator && decide N.Nodup && decide (N.take ps.length = ps) && (ps.all fun x => decide (sc.names.lookup x = some .local) || decide (sc.names.lookup x = some .cell)) && sc.names.all fun y => !decide (y.2 = .free)
theorem fscB_ok {N ps : List Str} {sc : Scope} (h : fscB N ps sc = true) : FnScope N ps sc := by
  unfold fscB at h
  simp only [Bool.and_eq_true, Bool.not_eq_true', decide_eq_true_eq, List.all_eq_true, Bool.or_eq_true, decide_eq_false_iff_not] at h
  obtain ⟨⟨⟨⟨⟨⟨h1, h2⟩, h3⟩, h4⟩, h5⟩, h6⟩, h7⟩ := h
  exact ⟨h1, h2, h3, h4, h5, h6, h7⟩
structure Px where
  defs : List Dx
  glo : List (String × Va)
  free : List String
  exc : List String
  fld : List (String × String)
  fuel : Nat
  sub : List ((String × String) × Bool) := []
  subT : List ((String × String) × Bool) := []
  cls : List String := []
  key : List (String × KeyS) := []
  tup : List String := []
  xin : List Dx := []
def Px.find (P : Px) (key : String) (m : Option String) : Option Dx := P.defs.find? fun d => decide (d.key = key) && decide (d.m = m)
theorem Px.find_mem {P : Px} {key : String} {m : Option String} {d : Dx} (h : P.find key m = some d) : d ∈ P.defs ∧ d.key = key ∧ d.m = m := by
  unfold Px.find at h
  have h1 := List.find?_some h
  simp only [Bool.and_eq_true, decide_eq_true_eq] at h1
  exact ⟨List.mem_of_find?_eq_some h, h1⟩
/-- a def's work, where the text's other defs do theirs -/
def Dx.run (γ : Ga) (d : Dx) : List Va → Store → Res Va := bodyS d.np d.N.length (evK γ d.k)
/-- the text's meaning, at most n calls deep -/
def gaOf (P : Px) : Nat → Ga
  | 0 => { fn := fun _ => none, meth := fun _ _ => none, init := fun _ => none, glo := fun x => List.lookup x P.glo, fld := fun c f => P.fld.contains (c, f), fuel := P.fuel, sub := fun c t => List.lookup (c, t) P.sub, subT := fun c t => List.lookup (c, t) P.subT }
  | n + 1 => {
      fn := fun x => (P.find x none).map (Dx.run (gaOf P n))
      meth := fun c m => if m = "__init__" then none else (P.find c (some m)).map (Dx.run (gaOf P n))
      init := fun c => (P.find c (some "__init__")).map (Dx.run (gaOf P n))
      glo := fun x => List.lookup x P.glo
      fld := fun c f => P.fld.contains (c, f)
      fuel := P.fuel
      sub := fun c t => List.lookup (c, t) P.sub
      subT := fun c t => List.lookup (c, t) P.subT
      key := fun f => List.lookup f P.key
      exi := fun c => P.xin.any fun d => decide (d.key = c) }
def Px.cg (P : Px) : Cg := { glo := P.glo.map (·.1), free := P.free, fn := (P.defs.filter fun d => d.m.isNone).map (·.key), init := (P.defs.filter fun d => decide (d.m = some "__init__")).map (·.key), exc := P.exc, cls := P.cls, tup := P.tup, wrd := P.xin.map (·.key) }
/-- what the text itself must be -/
def Dx.good (g : Cg) (d : Dx) : Bool := plainArgs (defArgs d.st) && (d.np == d.ps.length) && decide (d.np ≤ d.N.length) && fscB d.N d.ps (defScope d.st) && (chkK g d.k d.sx).l (defBody d.st)
def Px.keyB (P : Px) (p : String × KeyS) : Bool := match P.find p.1 none with
  | some d => (match defBody d.st, d.ps with
    | [.Return (some e) _], [x] => p.2.tree x e && decide ((defScope d.st).names.lookup x = some .local) && !(x == ("__debug__" : Str))
    | _, _ => false)
  | none => false
def Dx.goodX (d : Dx) : Bool := plainArgs (defArgs d.st) && decide (d.np ≤ d.N.length) && fscB d.N d.ps (defScope d.st) && wordB d.N d.ps (defScope d.st) (defBody d.st) && decide (d.m = some "__init__")
def Px.good (P : Px) : Bool := P.defs.all (Dx.good P.cg) && P.key.all P.keyB && P.xin.all Dx.goodX

/-! ### what the head tells -/
def Dx.fa (d : Dx) : List He.Fa := match d.m with
  | none => [.glo (Str.ofString d.key)]
  | some m => [.glo (Str.ofString d.key), .cls (Str.ofString d.key), if m = "__init__" then .mkr (Str.ofString d.key) else .meth (Str.ofString d.key) (Str.ofString m)]
mutual
def glB (K : PySem.W.Frag) : Va → Value → Bool
  | .non, .none => true
  | .bl b, .bool c => b == c
  | .int i, .int j _ => decide (i = j)
  | .str l, .str x _ => decide (x = ⟨l.toArray⟩)
  | .tup l, .ref a => (match K.lookup a with
    | some ⟨.type c, _, .seq its _, _⟩ => decide (c = "tuple") && decide (its.size ≤ sizeLine) && glBs K l its.toList
    | _ => false)
  | _, _ => false
def glBs (K : PySem.W.Frag) : List Va → List Value → Bool
  | [], [] => true
  | w :: ws, u :: us => glB K w u && glBs K ws us
  | _, _ => false
end
mutual
theorem glB_ok {K : PySem.W.Frag} : ∀ (w : Va) (u : Value), glB K w u = true → ∃ v, RelV v u ∧ ∀ mg R, RepV K mg R w v
  | .non, u, h => by
    cases u <;> first | (simp [glB] at h; done) | skip
    exact ⟨.non, rfl, fun _ _ => .mkNon⟩
  | .bl b, u, h => by
    cases u with
    | bool c =>
      have e : b = c := by simpa [glB] using h
      subst e
      exact ⟨.bl b, rfl, fun _ _ => .mkBl⟩
    | _ => simp [glB] at h
  | .int i, u, h => by
    cases u with
    | int j t =>
      have e : i = j := by simpa [glB] using h
      subst e
      exact ⟨.int i, ⟨t, rfl⟩, fun _ _ => .mkInt⟩
    | _ => simp [glB] at h
  | .str l, u, h => by
    cases u with
    | str x t =>
      have e : x = ⟨l.toArray⟩ := by simpa [glB] using h
      subst e
      exact ⟨.str ⟨l.toArray⟩, ⟨t, rfl⟩, fun _ _ => .mkStr⟩
    | _ => simp [glB] at h
  | .tup l, u, h => by
    cases u with
    | ref a =>
      unfold glB at h
      cases q : K.lookup a with
      | none => rw [q] at h; cases h
      | some o =>
        obtain ⟨oc, od, dt, osl⟩ := o
        rw [q] at h
        cases oc with
        | type c =>
          cases dt with
          | seq its n =>
            have h : (decide (c = "tuple") && decide (its.size ≤ sizeLine) && glBs K l its.toList) = true := h
            simp only [Bool.and_eq_true, decide_eq_true_eq] at h
            obtain ⟨⟨h1, h2⟩, h3⟩ := h
            obtain ⟨vs, r1, r2⟩ := glBs_ok l _ h3
            refine ⟨.ref a, rfl, fun mg R => ?_⟩
            unfold RepV
            exact ⟨a, vs, rfl, .inr ⟨_, its, n, q, congrArg Value.type h1, rfl, h2, r1⟩, r2 mg R⟩
          | _ => cases h
        | _ => cases dt <;> cases h
    | _ => simp [glB] at h
  | .lst _, u, h => by simp [glB] at h
  | .scr _, u, h => by simp [glB] at h
  | .ref _, u, h => by simp [glB] at h
  | .fn _, u, h => by simp [glB] at h
  | .exc _ _, u, h => by simp [glB] at h
  | .ty _, u, h => by simp [glB] at h
theorem glBs_ok {K : PySem.W.Frag} : ∀ (ws : List Va) (us : List Value), glBs K ws us = true → ∃ vs, Vals vs us ∧ ∀ mg R, RepVs K mg R ws vs
  | [], us, h => by
    cases us with
    | nil => exact ⟨[], .nil, fun _ _ => .nil⟩
    | cons _ _ => simp [glBs] at h
  | w :: ws, us, h => by
    cases us with
    | nil => simp [glBs] at h
    | cons u us =>
      simp only [glBs, Bool.and_eq_true] at h
      obtain ⟨v, h1, h2⟩ := glB_ok w u h.1
      obtain ⟨vs, h3, h4⟩ := glBs_ok ws us h.2
      exact ⟨v :: vs, .cons h1 h3, fun mg R => .cons (h2 mg R) (h4 mg R)⟩
end
/-- types that the text may name -/
def tyNames : List String := ["int", "bool", "str", "tuple", "list", "ValueError"]
theorem ty_boot {n : String} (h : tyNames.contains n = true) : bootBuiltins (Str.ofString n) = some (.type n) := by
  have h : n ∈ tyNames := by simpa using h
  unfold tyNames at h
  simp only [List.mem_cons, List.not_mem_nil, or_false] at h
  rcases h with rfl | rfl | rfl | rfl | rfl | rfl
  · exact PyProof.Rows.boot_int
  · exact PyProof.Rows.boot_bool
  · exact PyProof.Rows.boot_str
  · exact PyProof.Rows.boot_tuple
  · exact PyProof.Rows.boot_list
  · decide +kernel
def gloB (K : PySem.W.Frag) (x : String) : Va → Bool
  | .ty n => decide (n = x) && tyNames.contains n && (He.Fa.free (Str.ofString x)).ok K
  | .fn y => decide (y = x) && (He.Fa.glo (Str.ofString x)).ok K
  | w => match PySem.W.nsIn K mainGlobals (Str.ofString x) with
    | some (some v) => glB K w v
    | _ => false
def excCB (K : PySem.W.Frag) (D : Addr) : Bool := decide (PySem.W.findIn K (.ref D) "__getattribute__" = some (some (.builtin "BaseException.__getattribute__"))) && decide (PySem.W.findIn K (.ref D) "__getattr__" = some none) && decide (PySem.W.subIn K (.ref D) (.type "BaseException") = some true) && PySem.W.hasDictIn K D
  && decide (PySem.W.findIn K (.ref D) "__class__" = some (some (.builtin "object.__class__"))) && decide (PySem.W.specialIn K (.builtin "object.__class__") "__get__" = some (some (.builtin "getset_descriptor.__get__"))) && decide (PySem.W.takesIn K (.builtin "object.__class__") = some true) && decide (PySem.W.mroIn K D (.type "object") = some true)
theorem excCB_ok {K : PySem.W.Frag} {D : Addr} (h : excCB K D = true) : ExcC K D := by
  unfold excCB at h
  simp only [Bool.and_eq_true, decide_eq_true_eq] at h
  obtain ⟨⟨⟨⟨⟨⟨⟨h1, h2⟩, h3⟩, h4⟩, h5⟩, h6⟩, h7⟩, h8⟩ := h
  exact ⟨h1, h2, h3, h4, h5, h6, h7, h8⟩
def subB (K : PySem.W.Frag) (p : (String × String) × Bool) : Bool := (He.Fa.glo (Str.ofString p.1.1)).ok K && (He.Fa.glo (Str.ofString p.1.2)).ok K && excCB K (He.ga K (Str.ofString p.1.1)) && decide (PySem.W.kitOne K (.ref (He.ga K (Str.ofString p.1.1))) (.ref (He.ga K (Str.ofString p.1.2))) = some p.2)
  && decide (PySem.W.exmOne K (.ref (He.ga K (Str.ofString p.1.1))) (.ref (He.ga K (Str.ofString p.1.2))) = some p.2)
def subTB (K : PySem.W.Frag) (p : (String × String) × Bool) : Bool := (He.Fa.glo (Str.ofString p.1.1)).ok K && excCB K (He.ga K (Str.ofString p.1.1)) && decide (PySem.W.kitOne K (.ref (He.ga K (Str.ofString p.1.1))) (.type p.1.2) = some p.2)
def tupB (K : PySem.W.Frag) (y : String) : Bool := match PySem.W.nsIn K mainGlobals (Str.ofString y) with
  | some (some (.ref a)) => (match K.lookup a with
    | some ⟨.type c, none, _, _⟩ => decide (c = "tuple")
    | _ => false)
  | _ => false
theorem tupB_ok {K : PySem.W.Frag} {mg : Str → Option Value} {h : Heap} {y : String} (X : K.In h) (G : h.Ns mainGlobals mg) (q : tupB K y = true) : ∃ a ob, mg (Str.ofString y) = some (.ref a) ∧ K.lookup a = some ob ∧ ob.cls = .type "tuple" ∧ ob.dict = none := by
  unfold tupB at q
  split at q
  · rename_i a e
    split at q
    · rename_i c x1 x2 e2
      have : c = "tuple" := of_decide_eq_true q
      subst this
      exact ⟨a, _, PySem.W.mg_of X G e, e2, rfl, rfl⟩
    · cases q
  · cases q
def xinB (K : PySem.W.Frag) (d : Dx) : Bool := (He.Fa.glo (Str.ofString d.key)).ok K && oexB K (He.ga K (Str.ofString d.key))
def Px.ex (P : Px) (K : PySem.W.Frag) : Bool := (P.xin.all (xinB K) && P.tup.all (tupB K)) && ((P.glo.all fun p => gloB K p.1 p.2) && P.sub.all (subB K) && P.subT.all (subTB K) && P.cls.all fun c => (He.Fa.glo (Str.ofString c)).ok K)
def Px.fa (P : Px) : List He.Fa := P.defs.flatMap Dx.fa ++ (P.free.map fun x => .free (Str.ofString x)) ++ (P.fld.flatMap fun p => [.glo (Str.ofString p.1), .noat (Str.ofString p.1) (Str.ofString p.2)]) ++ P.exc.flatMap fun c => [.glo (Str.ofString c), .exc (Str.ofString c)]
/-- what the head tells of the text: all that is asked -/
structure Told (P : Px) (K : PySem.W.Frag) : Prop where
  fa : ∀ f ∈ P.fa, f.ok K = true
  ex : P.ex K = true
  fn : ∀ d ∈ P.defs ++ P.xin, ∃ fd, FunD K (dname d.st) d.qual (defArgs d.st) (defBody d.st) (defScope d.st) [] [] (He.fAd K d.at_) fd
section
variable {P : Px} {Prog : Program} {w : World} {K : PySem.W.Frag} {mg : Str → Option Value} {base h : Heap}
theorem glo_of {x : String} {wv : Va} (X : K.In h) (G : h.Ns mainGlobals mg) (q : gloB K x wv = true) : ∃ v u, (mg (Str.ofString x) = some u ∨ (mg (Str.ofString x) = none ∧ bootBuiltins (Str.ofString x) = some u)) ∧ RelV v u ∧ ∀ R, RepV K mg R wv v := by
  have gen : (match PySem.W.nsIn K mainGlobals (Str.ofString x) with
    | some (some v) => glB K wv v
    | _ => false) = true → ∃ v u, (mg (Str.ofString x) = some u ∨ (mg (Str.ofString x) = none ∧ bootBuiltins (Str.ofString x) = some u)) ∧ RelV v u ∧ ∀ R, RepV K mg R wv v := fun q => by
    cases e : PySem.W.nsIn K mainGlobals (Str.ofString x) with
    | none => rw [e] at q; cases q
    | some o =>
      rw [e] at q
      cases o with
      | none => cases q
      | some u =>
        obtain ⟨v, h1, h2⟩ := glB_ok _ _ q
        exact ⟨v, u, .inl (PySem.W.mg_of X G e), h1, fun R => h2 mg R⟩
  cases wv with
  | ty n =>
    have q : (decide (n = x) && tyNames.contains n && (He.Fa.free (Str.ofString x)).ok K) = true := q
    simp only [Bool.and_eq_true, decide_eq_true_eq] at q
    obtain ⟨⟨rfl, h2⟩, h3⟩ := q
    exact ⟨.ty n, .type n, .inr ⟨He.free_ok X G h3, ty_boot h2⟩, rfl, fun R => by unfold RepV; rfl⟩
  | fn y =>
    have q : (decide (y = x) && (He.Fa.glo (Str.ofString x)).ok K) = true := q
    simp only [Bool.and_eq_true, decide_eq_true_eq] at q
    obtain ⟨rfl, h3⟩ := q
    have := He.glo_ok X G h3
    exact ⟨.ref _, .ref _, .inl this, rfl, fun R => by unfold RepV; exact ⟨_, rfl, this⟩⟩
  | _ => exact gen q
theorem mem_of_look {α β : Type} [BEq α] [LawfulBEq α] {x : α} {y : β} : ∀ {l : List (α × β)}, List.lookup x l = some y → (x, y) ∈ l
  | [], h => by cases h
  | (a, b) :: l, h => by
    rw [List.lookup_cons] at h
    cases c : (x == a) with
    | true =>
      rw [c] at h
      cases h
      rw [beq_iff_eq.mp c]
      exact List.mem_cons_self
    | false =>
      rw [c] at h
      exact List.mem_cons_of_mem _ (mem_of_look h)
theorem lookup_of_mem {x : String} : ∀ {l : List (String × Va)}, x ∈ l.map (·.1) → ∃ wv, l.lookup x = some wv ∧ (x, wv) ∈ l
  | [], h => by cases h
  | (y, wv) :: l, h => by
    rw [List.lookup_cons]
    by_cases c : x = y
    · subst c
      rw [beq_self_eq_true]
      exact ⟨wv, rfl, List.mem_cons_self⟩
    · rw [beq_eq_false_iff_ne.mpr c]
      obtain ⟨u, h1, h2⟩ := lookup_of_mem (l := l) ((List.mem_cons.mp h).resolve_left c)
      exact ⟨u, h1, List.mem_cons_of_mem _ h2⟩
theorem Told.defFa (T : Told P K) {d : Dx} (hd : d ∈ P.defs) {f : He.Fa} (hf : f ∈ d.fa) : f.ok K = true := by
  refine T.fa f ?_
  unfold Px.fa
  simp only [List.mem_append, List.mem_flatMap]
  exact .inl (.inl (.inl ⟨d, hd, hf⟩))
theorem binds_of (T : Told P K) (hg : P.good = true) {d : Dx} (hd : d ∈ P.defs) : d.np = d.ps.length ∧ d.np ≤ d.N.length ∧ FnScope d.N d.ps (defScope d.st) ∧ plainArgs (defArgs d.st) = true ∧ (chkK P.cg d.k d.sx).l (defBody d.st) = true := by
  have h1 := List.all_eq_true.mp (by unfold Px.good at hg; rw [Bool.and_eq_true, Bool.and_eq_true] at hg; exact hg.1.1) d hd
  unfold Dx.good at h1
  simp only [Bool.and_eq_true, beq_iff_eq, decide_eq_true_eq] at h1
  obtain ⟨⟨⟨⟨h1, h2⟩, h3⟩, h4⟩, h5⟩ := h1
  exact ⟨h2, h3, fscB_ok h4, h1, h5⟩
theorem nodup_take {α : Type} {N ps : List α} (h : N.Nodup) (e : N.take ps.length = ps) : ps.Nodup := by
  rw [← e]
  exact h.sublist (List.take_sublist _ _)
/-- a def, where the others are known: it is known, one call deeper -/
theorem def_ok (T : Told P K) (hg : P.good = true) {d : Dx} (hd : d ∈ P.defs) {k : Nat} {γ : Ga} (hT : Tab γ P.cg Prog w K mg base k) : DefL Prog w K mg base (k + 2) (He.fAd K d.at_) d.np (Dx.run γ d) := by
  obtain ⟨h1, h2, h3, h4, h5⟩ := binds_of T hg hd
  obtain ⟨fd, F⟩ := T.fn d (List.mem_append_left _ hd)
  refine ⟨⟨fd, d.ps, ?_, ?_, h1.symm⟩, F.kp, fun ws S hl => bodyS_len ws S hl⟩
  · have := fn_ok (P := Prog) (w := w) (mg := mg) (base := base) (k := k + 1) (fb := evK γ d.k) F h3 (by rw [← h1]; exact h2) fun cdv A outer s H E R hr => ?_
    · rw [h1]
      unfold Dx.run
      rw [h1]
      exact this
    · refine (okK (γ := γ) (g := P.cg) d.k _ d.sx _ k ⟨⟨rfl, rfl, h3.kind, h3.nd, rfl, takes_of rfl rfl rfl rfl, hT, hr⟩, fun _ => rfl, passes_of rfl, rfl, rfl, rfl⟩).l _ h5
  · refine FunD.bindsN F fun kV doc pm an cdv ct us hl => ?_
    exact bind_plain (fd := PySem.W.fnOf (dname d.st) d.qual (defArgs d.st) (defBody d.st) (defScope d.st) .none kV doc pm an cdv ct) h4 (nodup_take h3.nd h3.pre) rfl hl
theorem DefL.mono {j k n : Nat} {f : Addr} {γf : List Va → Store → Res Va} (d : DefL Prog w K mg base j f n γf) (h : j ≤ k) : DefL Prog w K mg base k f n γf := by
  obtain ⟨⟨fd, ps, G, hb, hn⟩, kp, hl⟩ := d
  exact ⟨⟨fd, ps, G.mono h, hb, hn⟩, kp, hl⟩
/-- a key's def -/
theorem key_fn (T : Told P K) (hg : P.good = true) (X : K.In h) (G : h.Ns mainGlobals mg) {f : String} {ks : KeyS} (hk : List.lookup f P.key = some ks) : ∃ a, mg (Str.ofString f) = some (.ref a) ∧ KeyFn K a ks := by
  have h1 : P.keyB (f, ks) = true := by
    unfold Px.good at hg
    rw [Bool.and_eq_true, Bool.and_eq_true] at hg
    exact List.all_eq_true.mp hg.1.2 _ (mem_of_look hk)
  unfold Px.keyB at h1
  cases q : P.find f none with
  | none =>
    have h1 : (match P.find f none with
      | some d => (match defBody d.st, d.ps with
        | [.Return (some e) _], [x] => ks.tree x e && decide ((defScope d.st).names.lookup x = some .local) && !(x == ("__debug__" : Str))
        | _, _ => false)
      | none => false) = true := h1
    rw [q] at h1
    cases h1
  | some d =>
    have h1 : (match P.find f none with
      | some d => (match defBody d.st, d.ps with
        | [.Return (some e) _], [x] => ks.tree x e && decide ((defScope d.st).names.lookup x = some .local) && !(x == ("__debug__" : Str))
        | _, _ => false)
      | none => false) = true := h1
    rw [q] at h1
    obtain ⟨hd, e1, e2⟩ := P.find_mem q
    obtain ⟨b1, b2, b3, b4, b5⟩ := binds_of T hg hd
    obtain ⟨fd, F⟩ := T.fn d (List.mem_append_left _ hd)
    refine ⟨He.ga K (Str.ofString f), He.glo_ok X G (T.defFa hd (f := .glo (Str.ofString f)) ?_), ?_⟩
    · unfold Dx.fa
      rw [e2, e1]
      exact List.mem_cons_self
    · have ea : He.fAd K d.at_ = He.ga K (Str.ofString f) := by
        unfold Dx.at_
        rw [e2, e1]
        rfl
      rw [← ea]
      have h1 : (match defBody d.st, d.ps with
        | [.Return (some e) _], [x] => ks.tree x e && decide ((defScope d.st).names.lookup x = some .local) && !(x == ("__debug__" : Str))
        | _, _ => false) = true := h1
      split at h1
      · rename_i e pos x hb hp
        simp only [Bool.and_eq_true, decide_eq_true_eq, Bool.not_eq_true'] at h1
        obtain ⟨⟨h1, h2⟩, h3⟩ := h1
        obtain ⟨oc, od, dV, kV, doc, pm, an, cdv, ct, osl, rfl, lk, hcd, hD, hK⟩ := F.ex
        have hdV : dV = .none := by
          rcases hD with ⟨_, e⟩ | ⟨e, _⟩
          · exact e
          · exact absurd rfl e
        subst hdV
        refine ⟨_, x, oc, od, osl, e, pos, lk, hcd, ?_, rfl, fun v => ?_, b3.kind, b3.co, b3.gen, h2, h3, h1⟩
        · rw [hb]
        · have hp2 : parsOf (defArgs d.st) = [x] := hp
          have := bind_plain (fd := PySem.W.fnOf (dname d.st) d.qual (defArgs d.st) (defBody d.st) (defScope d.st) .none kV doc pm an cdv ct) b4 (by show (parsOf (defArgs d.st)).Nodup; rw [hp2]; simp) rfl (us := [v]) (by show 1 = (parsOf (defArgs d.st)).length; rw [hp2]; rfl)
          rw [this]
          show pure ((parsOf (defArgs d.st)).zip [v]) = _
          rw [hp2]
          rfl
      · cases h1
/-- all defs are known, at every depth -/
theorem tab_ok (T : Told P K) (hg : P.good = true) (X : K.In h) (G : h.Ns mainGlobals mg) : ∀ n : Nat, Tab (gaOf P n) P.cg Prog w K mg base (2 * n) := by
  have ex4 : (((P.glo.all fun p => gloB K p.1 p.2) = true ∧ P.sub.all (subB K) = true) ∧ P.subT.all (subTB K) = true) ∧ (P.cls.all fun c => (He.Fa.glo (Str.ofString c)).ok K) = true := by
    have := T.ex
    unfold Px.ex at this
    simp only [Bool.and_eq_true] at this
    exact this.2
  have ftup : ∀ y, y ∈ P.cg.tup → ∃ a ob, mg (Str.ofString y) = some (.ref a) ∧ K.lookup a = some ob ∧ ob.cls = .type "tuple" ∧ ob.dict = none := fun y hy => by
    have := T.ex
    unfold Px.ex at this
    simp only [Bool.and_eq_true] at this
    exact tupB_ok X G (List.all_eq_true.mp this.1.2 y hy)
  have fxin : ∀ d ∈ P.xin, mg (Str.ofString d.key) = some (.ref (He.ga K (Str.ofString d.key))) ∧ WordC K (He.ga K (Str.ofString d.key)) := fun d hd => by
    have := T.ex
    unfold Px.ex at this
    simp only [Bool.and_eq_true] at this
    have := List.all_eq_true.mp this.1.1 d hd
    unfold xinB at this
    rw [Bool.and_eq_true] at this
    exact ⟨He.glo_ok X G this.1, oexB_ok this.2⟩
  have fwrd : ∀ t, t ∈ P.cg.wrd → ∃ T, mg (Str.ofString t) = some (.ref T) ∧ WordC K T := fun t ht => by
    obtain ⟨d, hd, rfl⟩ := List.mem_map.mp (show t ∈ P.xin.map (·.key) from ht)
    exact ⟨_, fxin d hd⟩
  have fexi : ∀ (n : Nat) c, (P.xin.any fun d => decide (d.key = c)) = true → ExW Prog w K mg base (2 * (n + 1)) c := fun n c hc => by
    obtain ⟨d, hd, hk⟩ := List.any_eq_true.mp hc
    have hk : d.key = c := of_decide_eq_true hk
    subst hk
    obtain ⟨h1, h2⟩ := fxin d hd
    have hgd : Dx.goodX d = true := by
      unfold Px.good at hg
      rw [Bool.and_eq_true] at hg
      exact List.all_eq_true.mp hg.2 d hd
    unfold Dx.goodX at hgd
    simp only [Bool.and_eq_true, decide_eq_true_eq] at hgd
    obtain ⟨⟨⟨⟨g1, g2⟩, g3⟩, g4⟩, g5⟩ := hgd
    have Sc := fscB_ok g3
    obtain ⟨fd, F⟩ := T.fn d (List.mem_append_right _ hd)
    have ea : He.fAd K d.at_ = He.ma K (He.ga K (Str.ofString d.key)) "__init__" := by
      unfold Dx.at_
      rw [g5]
      rfl
    rw [ea] at F
    obtain ⟨w1, w2⟩ := word_ok (P := Prog) (w := w) (mg := mg) (base := base) h2 F Sc g4
    refine ⟨_, fd, d.ps, 1, by omega, h1, h2, w1, ?_⟩
    refine FunD.bindsN F fun kV doc pm an cdv ct us hl => ?_
    exact bind_plain (fd := PySem.W.fnOf (dname d.st) d.qual (defArgs d.st) (defBody d.st) (defScope d.st) .none kV doc pm an cdv ct) g1 (nodup_take Sc.nd Sc.pre) rfl hl
  have fcls : ∀ c, c ∈ P.cg.cls → ∃ C, mg (Str.ofString c) = some (.ref C) := fun c hc => ⟨_, He.glo_ok X G (List.all_eq_true.mp ex4.2 c hc)⟩
  have fsub : SubOk K mg (fun c t => List.lookup (c, t) P.sub) (fun c t => List.lookup (c, t) P.subT) := by
    refine ⟨fun c t b C T' h1 h2 h3 => ?_, fun c t b C h1 h2 => ?_⟩
    · have q := List.all_eq_true.mp ex4.1.1.2 _ (mem_of_look h1)
      unfold subB at q
      simp only [Bool.and_eq_true, decide_eq_true_eq] at q
      obtain ⟨⟨⟨⟨q1, q2⟩, q3⟩, q4⟩, q5⟩ := q
      have e1 := (He.glo_ok X G q1).symm.trans h2
      have e2 := (He.glo_ok X G q2).symm.trans h3
      cases e1
      cases e2
      exact ⟨excCB_ok q3, q4, q5⟩
    · have q := List.all_eq_true.mp ex4.1.2 _ (mem_of_look h1)
      unfold subTB at q
      simp only [Bool.and_eq_true, decide_eq_true_eq] at q
      obtain ⟨⟨q1, q3⟩, q4⟩ := q
      have e1 := (He.glo_ok X G q1).symm.trans h2
      cases e1
      exact ⟨excCB_ok q3, q4⟩
  have fglo : ∀ γ : Ga, (γ.glo = fun x => List.lookup x P.glo) → ∀ x, x ∈ P.cg.glo → ∃ wv v u, γ.glo x = some wv ∧ (mg (Str.ofString x) = some u ∨ (mg (Str.ofString x) = none ∧ bootBuiltins (Str.ofString x) = some u)) ∧ RelV v u ∧ ∀ R, RepV K mg R wv v := fun γ e x hx => by
    obtain ⟨wv, h1, h2⟩ := lookup_of_mem (show x ∈ P.glo.map (·.1) from hx)
    obtain ⟨v, u, h3, h4, h5⟩ := glo_of X G (List.all_eq_true.mp ex4.1.1.1 _ h2)
    exact ⟨wv, v, u, by rw [e]; exact h1, h3, h4, h5⟩
  have ffree : ∀ x, x ∈ P.cg.free → mg (Str.ofString x) = none := fun x hx => by
    refine He.free_ok X G (T.fa _ ?_)
    unfold Px.fa
    simp only [List.mem_append, List.mem_map]
    exact .inl (.inl (.inr ⟨x, hx, rfl⟩))
  have ffld : ∀ c f C, P.fld.contains (c, f) = true → mg (Str.ofString c) = some (.ref C) → NoAttr K C (Str.ofString f) := fun c f C hc hm => by
    have hc : (c, f) ∈ P.fld := by simpa using hc
    have q : ∀ z ∈ [He.Fa.glo (Str.ofString c), He.Fa.noat (Str.ofString c) (Str.ofString f)], z.ok K = true := fun z hz => by
      refine T.fa z ?_
      unfold Px.fa
      simp only [List.mem_append, List.mem_flatMap]
      exact .inl (.inr ⟨(c, f), hc, hz⟩)
    have e := (He.glo_ok X G (q _ List.mem_cons_self)).symm.trans hm
    cases e
    exact He.noat_ok (q _ (List.mem_cons_of_mem _ List.mem_cons_self))
  have fexc : ∀ c, c ∈ P.cg.exc → ∃ C, mg (Str.ofString c) = some (.ref C) ∧ PySem.W.excIn K C He.veBase "ValueError.__new__" = true ∧ PySem.W.keepIn K (.ref C) = true ∧ PySem.W.subIn K (.ref C) (.type "BaseException") = some true ∧ PySem.W.typeIn K (.ref C) = some (.type "type") := fun c hc => by
    have q : ∀ z ∈ [He.Fa.glo (Str.ofString c), He.Fa.exc (Str.ofString c)], z.ok K = true := fun z hz => by
      refine T.fa z ?_
      unfold Px.fa
      simp only [List.mem_append, List.mem_flatMap]
      exact .inr ⟨c, hc, hz⟩
    have e := He.glo_ok X G (q _ List.mem_cons_self)
    exact ⟨_, e, He.exc_ok (q _ (List.mem_cons_of_mem _ List.mem_cons_self))⟩
  intro n
  induction n with
  | zero => exact ⟨fglo _ rfl, ffree, fun f _ h e => (by cases e), fun c m h e => (by cases e), fun c _ h e => (by cases e), ffld, fexc, fcls, fsub, fun f ks e => (by cases e), fun c e => (by cases e), fwrd, ftup⟩
  | succ n ih =>
    refine ⟨fglo _ rfl, ffree, fun f _ h e => ?_, fun c m h e => ?_, fun c _ h e => ?_, ffld, fexc, fcls, fsub, fun f ks e => key_fn T hg X G e, fun c e => fexi n c e, fwrd, ftup⟩
    · have e : (P.find f none).map (Dx.run (gaOf P n)) = some h := e
      cases q : P.find f none with
      | none => rw [q] at e; cases e
      | some d =>
        rw [q] at e
        cases e
        obtain ⟨hd, e1, e2⟩ := P.find_mem q
        have r := def_ok (Prog := Prog) (w := w) (mg := mg) (base := base) T hg hd ih
        refine ⟨He.ga K (Str.ofString f), d.np, He.glo_ok X G (T.defFa hd (f := .glo (Str.ofString f)) ?_), ?_⟩
        · unfold Dx.fa
          rw [e2, e1]
          exact List.mem_cons_self
        · have ea : He.fAd K d.at_ = He.ga K (Str.ofString f) := by
            unfold Dx.at_
            rw [e2, e1]
            rfl
          rw [← ea]
          exact r
    · have e : (if m = "__init__" then none else (P.find c (some m)).map (Dx.run (gaOf P n))) = some h := e
      by_cases hm : m = "__init__"
      · rw [if_pos hm] at e
        cases e
      · rw [if_neg hm] at e
        cases q : P.find c (some m) with
        | none => rw [q] at e; cases e
        | some d =>
          rw [q] at e
          cases e
          obtain ⟨hd, e1, e2⟩ := P.find_mem q
          have r := def_ok (Prog := Prog) (w := w) (mg := mg) (base := base) T hg hd ih
          have q2 : ∀ z ∈ [He.Fa.glo (Str.ofString c), .cls (Str.ofString c), .meth (Str.ofString c) (Str.ofString m)], z.ok K = true := fun z hz => by
            refine T.defFa hd (f := z) ?_
            unfold Dx.fa
            rw [e2, e1]
            show z ∈ [He.Fa.glo (Str.ofString c), .cls (Str.ofString c), if m = "__init__" then .mkr (Str.ofString c) else .meth (Str.ofString c) (Str.ofString m)]
            rw [if_neg hm]
            exact hz
          have ea : He.fAd K d.at_ = He.ma K (He.ga K (Str.ofString c)) (Str.ofString m) := by
            unfold Dx.at_
            rw [e2, e1]
            rfl
          refine ⟨_, _, d.np, He.glo_ok X G (q2 _ List.mem_cons_self), He.cls_ok (q2 _ (List.mem_cons_of_mem _ List.mem_cons_self)), He.meth_ok (q2 _ (List.mem_cons_of_mem _ (List.mem_cons_of_mem _ List.mem_cons_self))), ?_⟩
          rw [← ea]
          exact r
    · have e : (P.find c (some "__init__")).map (Dx.run (gaOf P n)) = some h := e
      cases q : P.find c (some "__init__") with
      | none => rw [q] at e; cases e
      | some d =>
        rw [q] at e
        cases e
        obtain ⟨hd, e1, e2⟩ := P.find_mem q
        have r := def_ok (Prog := Prog) (w := w) (mg := mg) (base := base) T hg hd ih
        have q2 : ∀ z ∈ [He.Fa.glo (Str.ofString c), .cls (Str.ofString c), .mkr (Str.ofString c)], z.ok K = true := fun z hz => by
          refine T.defFa hd (f := z) ?_
          unfold Dx.fa
          rw [e2, e1]
          show z ∈ [He.Fa.glo (Str.ofString c), .cls (Str.ofString c), if "__init__" = "__init__" then .mkr (Str.ofString c) else .meth (Str.ofString c) (Str.ofString "__init__")]
          rw [if_pos rfl]
          exact hz
        have ea : He.fAd K d.at_ = He.ma K (He.ga K (Str.ofString c)) (Str.ofString "__init__") := by
          unfold Dx.at_
          rw [e2, e1]
          rfl
        refine ⟨_, _, d.np, He.glo_ok X G (q2 _ List.mem_cons_self), He.cls_ok (q2 _ (List.mem_cons_of_mem _ List.mem_cons_self)), He.mkr_ok (q2 _ (List.mem_cons_of_mem _ (List.mem_cons_of_mem _ List.mem_cons_self))), ?_⟩
        rw [← ea]
        exact r
end
end Mi
end
section
/-! Mi, part O: the end: a law holds where its plain reading gives True. -/
namespace Mi
open PySem PySem.Spec PyProof.Rows L2

theorem told_of {P : Px} {w : World} {h : Heap} {K : PySem.W.Frag} (c : He.SaysX P.fa ((P.defs ++ P.xin).map Dx.toD) [] [] P.ex w h K) : Told P K := by
  refine ⟨fun f hf => c.t.d.facts hf, c.more, fun d hd => ?_⟩
  obtain ⟨fd, F⟩ := c.t.d.defs (d := d.toD) (List.mem_map.mpr ⟨d, hd, rfl⟩)
  exact ⟨fd, F⟩
/-- the law, by its plain reading, at depth n -/
def Plain (P : Px) (n : Nat) : Prop := ∀ ns : List Int, ns.length ≤ 63 → ∃ g S, (gaOf P n).fn "law" = some g ∧ g [.scr ns] [] = .ok (.bl true) S
theorem relBl {K : PySem.W.Frag} {mg : Str → Option Value} {R : RC} {b : Bool} {v : V} (h : RepV K mg R (.bl b) v) : v = .bl b := by
  unfold RepV at h
  exact h
theorem law_end {l : PySem.W.OpenLaw} {P : Px} {n : Nat} {q : Program} {loose : List Str} {XP : (Str → Option Value) → Heap → Prop} {d : DefRec} {M : Nat} (hn : l.most = some 63) (hdf : d.params.defaults = []) (hdn : d.name = ("law" : Str)) (hr : Room (2 * n) callerA)
    (hg : P.good = true) (hl : ∃ dl, P.find "law" none = some dl ∧ dl.ps = [("_law_script" : Str)]) (plain : Plain P n) :
    PySem.W.WalkO q loose XP (He.hookX M P.fa ((P.defs ++ P.xin).map Dx.toD) [] [] P.ex).says l.row.toRowW d [] (fun f vs => PySem.call f vs) := by
  refine Att.attach_call hn hdf fun w s₀ s₁ mg mb fa o pm cd doc a vs ns G Y ho hd hcd hmg hobj hints hlen hgn => ?_
  obtain ⟨K, KX, c⟩ := Y
  have T : Told P K := told_of c
  rw [hdn] at hmg
  obtain ⟨dl, hf, hps⟩ := hl
  obtain ⟨hd1, e1, e2⟩ := P.find_mem hf
  have hlaw : "law" ∈ P.cg.fn := by
    unfold Px.cg
    simp only [List.mem_map, List.mem_filter]
    exact ⟨dl, ⟨hd1, by rw [e2]; rfl⟩, e1⟩
  have hb0 : dl.np ≤ 1 ∧ 1 ≤ dl.np := by
    have := (binds_of T hg hd1).1
    rw [hps] at this
    rw [this]
    exact ⟨Nat.le_refl _, Nat.le_refl _⟩
  have tab : ∀ base : Heap, Tab (gaOf P n) P.cg l.prog w K mg base (2 * n) := fun base => tab_ok T hg KX G.T.g n
  obtain ⟨g0, S0, eg, ev0⟩ := plain [] (by decide)
  obtain ⟨fd0, F0⟩ := T.fn dl (List.mem_append_left _ hd1)
  have hfa : fa = He.fAd K dl.at_ := by
    have := He.glo_ok KX G.T.g (T.defFa hd1 (f := .glo (Str.ofString "law")) (by unfold Dx.fa; rw [e2, e1]; exact List.mem_cons_self))
    have hmg : mg (Str.ofString "law") = some (.ref fa) := hmg
    rw [this] at hmg
    cases hmg
    unfold Dx.at_
    rw [e2, e1]
    rfl
  have core : ∀ base : Heap, FnOk l.prog w K mg base (L2.CX l.prog w) (2 * n) fa fd0 [("_law_script" : Str)] (spOf K mg 1 g0) := fun base => by
    cases n with
    | zero => cases eg
    | succ m =>
      have eg2 : (P.find "law" none).map (Dx.run (gaOf P m)) = some g0 := eg
      rw [hf] at eg2
      cases eg2
      obtain ⟨h1, h2, h3, h4, h5⟩ := binds_of T hg hd1
      have := fn_ok (P := l.prog) (w := w) (mg := mg) (base := base) (k := 2 * m + 1) (fb := evK (gaOf P m) dl.k) F0 h3 (by rw [← h1]; exact h2) fun cdv A outer s H E R hr => ?_
      · rw [← hfa, hps] at this
        unfold Dx.run
        rw [h1, hps]
        exact this
      · exact (okK (γ := gaOf P m) (g := P.cg) dl.k _ dl.sx _ (2 * m) ⟨⟨rfl, rfl, h3.kind, h3.nd, rfl, takes_of rfl rfl rfl rfl, tab_ok T hg KX G.T.g m, hr⟩, fun _ => rfl, passes_of rfl, rfl, rfl, rfl⟩).l _ h5
  obtain ⟨h1, h2, h3, h4, h5⟩ := binds_of T hg hd1
  have hbind : ∀ (s : Shared) (u : Value), BindsTo s fd0 ⟨[u], []⟩ [(("_law_script" : Str), u)] := fun s u => by
    have q := FunD.bindsA (ps := dl.ps) F0 (fun kV doc pm an cdv ct us hl => bind_plain (fd := PySem.W.fnOf (dname dl.st) dl.qual (defArgs dl.st) (defBody dl.st) (defScope dl.st) .none kV doc pm an cdv ct) h4 (nodup_take h3.nd h3.pre) rfl hl) s [u] (by rw [hps]; rfl)
    rw [hps] at q
    exact q
  refine law_call KX G.T.g G.T.b G.T.builtins G.T.nolimit hgn hobj hints (Nat.le_trans hlen (by decide)) hr (fun base _ _ => core base) hbind (fun H hO hS => ?_) fun H e s' hc => ?_
  · obtain ⟨g1, S1, eg1, ev1⟩ := plain ns hlen
    rw [eg] at eg1
    cases eg1
    refine ⟨rfl, ⟨H, []⟩, [], [.scr ns], ⟨fun _ _ e => e, rfl, List.nodup_nil, fun _ h => (by cases h), fun i o b h => (by cases h)⟩, .one ?_, ?_⟩
    · unfold RepV
      exact ⟨a, rfl, hS⟩
    · rw [ev1]
      exact fun R' H' v _ _ q => relBl q
  · obtain ⟨_, _, _, _, _, _, _, _, _, _, _, _, z⟩ := hc
    exact z
end Mi
end
section
/-! Mi, part Q: reading terms by simp: what is told, step by step; loops. -/
namespace Mi
open PySem PySem.Spec PyProof.Rows L2

section
variable {α β : Type}
@[simp] theorem rb_ok {a : α} {S : Store} {f : α → Store → Res β} : (Res.ok a S).bind f = f a S := id rfl
@[simp] theorem rb_ex {c : String} {a : Option Int} {S : Store} {f : α → Store → Res β} : (Res.ex c a S).bind f = .ex c a S := id rfl
@[simp] theorem rb_bad {f : α → Store → Res β} : (Res.bad).bind f = .bad := id rfl
@[simp] theorem rs_ok {a : α} {S : Store} {env : Evn} {f : α → Store → RS} : (Res.ok a S).toS env f = f a S := id rfl
@[simp] theorem rs_ex {c : String} {a : Option Int} {S : Store} {env : Evn} {f : α → Store → RS} : (Res.ex c a S).toS env f = .ex c a env S := id rfl
@[simp] theorem rs_bad {env : Evn} {f : α → Store → RS} : (Res.bad).toS env f = .bad := id rfl
@[simp] theorem at_nx {env : Evn} {S : Store} {g : Evn → Store → RS} : (RS.nx env S).andThen g = g env S := id rfl
@[simp] theorem at_rt {w : Va} {S : Store} {g : Evn → Store → RS} : (RS.rt w S).andThen g = .rt w S := id rfl
@[simp] theorem at_ex {c : String} {a : Option Int} {env : Evn} {S : Store} {g : Evn → Store → RS} : (RS.ex c a env S).andThen g = .ex c a env S := id rfl
@[simp] theorem at_bad {g : Evn → Store → RS} : RS.bad.andThen g = .bad := id rfl
/-- a choice: looked into only when it is made -/
def pick {σ : Type} (b : Bool) (x y : σ → α) (s : σ) : α := if b = true then x s else y s
@[simp] theorem pick_t {σ : Type} {x y : σ → α} {s : σ} : pick true x y s = x s := id rfl
@[simp] theorem pick_f {σ : Type} {x y : σ → α} {s : σ} : pick false x y s = y s := id rfl
@[simp] theorem lift_some {a : α} {S : Store} : lift (some a) S = .ok a S := id rfl
@[simp] theorem lift_none {S : Store} : (lift none S : Res α) = .bad := id rfl
end
section
variable {i j : Int} {γ : Ga} {env : Evn} {S : Store}
@[simp] theorem q_add : b2 .add (.int i) (.int j) = some (.int (i + j)) := id rfl
@[simp] theorem q_sub : b2 .sub (.int i) (.int j) = some (.int (i - j)) := id rfl
theorem q_mul (h : (-18446744073709551616 < i ∧ i < 18446744073709551616) ∨ (-18446744073709551616 < j ∧ j < 18446744073709551616)) : b2 .mul (.int i) (.int j) = some (.int (i * j)) := by
  have h : mulOk i j = true := decide_eq_true h
  show (((oInt mulOk (fun i j => .int (i * j)) (.int i) (.int j)).or _).or _).or _ = _
  unfold oInt
  simp only [h, if_true, Option.some_or]
theorem q_div (h0 : 0 < j) (h1 : j < 1073741824) : b2 .div (.int i) (.int j) = some (.int (i / j)) := by
  have h : divOk i j = true := decide_eq_true ⟨by omega, by omega⟩
  show oInt divOk (fun i j => .int (i.fdiv j)) (.int i) (.int j) = _
  unfold oInt
  simp only [h, if_true, Int.fdiv_eq_ediv_of_nonneg i (Int.le_of_lt h0)]
theorem q_mod (h0 : 0 < j) : b2 .mod (.int i) (.int j) = some (.int (i % j)) := by
  have h : modOk i j = true := decide_eq_true (by omega)
  show oInt modOk (fun i j => .int (i.fmod j)) (.int i) (.int j) = _
  unfold oInt
  simp only [h, if_true, Int.fmod_eq_emod_of_nonneg i (Int.le_of_lt h0)]
theorem q_pow (h0 : 0 ≤ j) (h1 : j ≤ 1000000) (h2 : i.natAbs < 18446744073709551616) : b2 .pow (.int i) (.int j) = some (.int (i ^ j.toNat)) := by
  have h : powOk i j = true := decide_eq_true ⟨h0, h1, h2⟩
  show oInt powOk (fun i j => .int (i ^ j.toNat)) (.int i) (.int j) = _
  unfold oInt
  simp only [h, if_true]
@[simp] theorem q_lt : co .lt (.int i) (.int j) = some (.bl (decide (i < j))) := id rfl
@[simp] theorem q_le : co .le (.int i) (.int j) = some (.bl (decide (i ≤ j))) := id rfl
@[simp] theorem q_gt : co .gt (.int i) (.int j) = some (.bl (decide (j < i))) := id rfl
@[simp] theorem q_ge : co .ge (.int i) (.int j) = some (.bl (decide (j ≤ i))) := id rfl
@[simp] theorem q_eq : co .eq (.int i) (.int j) = some (.bl (decide (i = j))) := by
  show (if (cl 8 (Va.int i) && cl 8 (Va.int j)) = true then some (Va.bl (if false = true then !decide (Va.int i = Va.int j) else decide (Va.int i = Va.int j))) else none) = _
  simp [cl]
@[simp] theorem q_ne : co .ne (.int i) (.int j) = some (.bl (!decide (i = j))) := by
  show (if (cl 8 (Va.int i) && cl 8 (Va.int j)) = true then some (Va.bl (if true = true then !decide (Va.int i = Va.int j) else decide (Va.int i = Va.int j))) else none) = _
  simp [cl]
@[simp] theorem q_neg : vNeg (.int i) = some (.int (-i)) := id rfl
@[simp] theorem tr_bl {b : Bool} : truth (.bl b) = some b := id rfl
@[simp] theorem tr_int : truth (.int i) = some (i != 0) := id rfl
/-! reading a term, one step each -/
@[simp] theorem v_con {w : Va} : (ev γ (.con w)).e env S = .ok w S := id rfl
@[simp] theorem v_var {i : Nat} : (ev γ (.var i)).e env S = fVar i env S := id rfl
@[simp] theorem v_var0 {w : Va} : fVar 0 (.val w :: env) S = .ok w S := id rfl
@[simp] theorem v_varS {i : Nat} {sl : Sl} : fVar (i + 1) (sl :: env) S = fVar i env S := by
  unfold fVar
  rw [List.getElem?_cons_succ]
@[simp] theorem v_glo {x : String} : (ev γ (.glo x)).e env S = lift (γ.glo x) S := id rfl
def binL (o : Va → Va → Option Va) (w : Va) (u : Va) (S : Store) : Res Va := lift (o w u) S
@[simp] theorem binL_e {o : Va → Va → Option Va} {w u : Va} : binL o w u S = lift (o w u) S := id rfl
def binK (o : Va → Va → Option Va) (k : Store → Res Va) (w : Va) (S : Store) : Res Va := (k S).bind (binL o w)
@[simp] theorem binK_e {o : Va → Va → Option Va} {k : Store → Res Va} {w : Va} : binK o k w S = (k S).bind (binL o w) := id rfl
@[simp] theorem v_bin {o : B2} {a b : E} : (ev γ (.bin o a b)).e env S = ((ev γ a).e env S).bind (binK (b2 o) ((ev γ b).e env)) := id rfl
@[simp] theorem v_cmp {o : CO} {a b : E} : (ev γ (.cmp o a b)).e env S = ((ev γ a).e env S).bind (binK (co o) ((ev γ b).e env)) := id rfl
@[simp] theorem v_ix {a b : E} : (ev γ (.ix a b)).e env S = ((ev γ a).e env S).bind (binK vIx ((ev γ b).e env)) := id rfl
def unK (o : Va → Option Va) (w : Va) (S : Store) : Res Va := lift (o w) S
@[simp] theorem unK_e {o : Va → Option Va} {w : Va} : unK o w S = lift (o w) S := id rfl
@[simp] theorem v_neg {a : E} : (ev γ (.neg a)).e env S = ((ev γ a).e env S).bind (unK vNeg) := id rfl
def notK (w : Va) (S : Store) : Res Va := match w with
  | .bl c => .ok (.bl (!c)) S
  | _ => .bad
@[simp] theorem notK_bl {c : Bool} : notK (.bl c) S = .ok (.bl (!c)) S := id rfl
/-- and, or: both sides are looked at -/
def andR (c : Bool) (S : Store) (r : Res Va) : Res Va := if c = true then r else .ok (.bl false) S
def orR (c : Bool) (S : Store) (r : Res Va) : Res Va := if c = true then .ok (.bl true) S else r
@[simp] theorem andR_t {r : Res Va} : andR true S r = r := id rfl
@[simp] theorem andR_f {r : Res Va} : andR false S r = .ok (.bl false) S := id rfl
@[simp] theorem andR_ok {c b : Bool} : andR c S (.ok (.bl b) S) = .ok (.bl (c && b)) S := by cases c <;> rfl
@[simp] theorem orR_t {r : Res Va} : orR true S r = .ok (.bl true) S := id rfl
@[simp] theorem orR_f {r : Res Va} : orR false S r = r := id rfl
@[simp] theorem orR_ok {c b : Bool} : orR c S (.ok (.bl b) S) = .ok (.bl (c || b)) S := by cases c <;> rfl
def andB (c : Bool) (S : Store) (r : Res Bool) : Res Bool := if c = true then r else .ok false S
def orB (c : Bool) (S : Store) (r : Res Bool) : Res Bool := if c = true then .ok true S else r
@[simp] theorem andB_t {r : Res Bool} : andB true S r = r := id rfl
@[simp] theorem andB_f {r : Res Bool} : andB false S r = .ok false S := id rfl
@[simp] theorem andB_ok {c b : Bool} : andB c S (.ok b S) = .ok (c && b) S := by cases c <;> rfl
@[simp] theorem orB_t {r : Res Bool} : orB true S r = .ok true S := id rfl
@[simp] theorem orB_f {r : Res Bool} : orB false S r = r := id rfl
@[simp] theorem orB_ok {c b : Bool} : orB c S (.ok b S) = .ok (c || b) S := by cases c <;> rfl
def andK (k : Store → Res Va) (w : Va) (S : Store) : Res Va := match w with
  | .bl c => andR c S (k S)
  | _ => .bad
@[simp] theorem andK_bl {c : Bool} {k : Store → Res Va} : andK k (.bl c) S = andR c S (k S) := id rfl
def orK (k : Store → Res Va) (w : Va) (S : Store) : Res Va := match w with
  | .bl c => orR c S (k S)
  | _ => .bad
@[simp] theorem orK_bl {c : Bool} {k : Store → Res Va} : orK k (.bl c) S = orR c S (k S) := id rfl
@[simp] theorem v_not {a : E} : (ev γ (.not a)).e env S = ((ev γ a).e env S).bind notK := id rfl
@[simp] theorem v_and {a b : E} : (ev γ (.and a b)).e env S = ((ev γ a).e env S).bind (andK ((ev γ b).e env)) := id rfl
@[simp] theorem v_or {a b : E} : (ev γ (.or a b)).e env S = ((ev γ a).e env S).bind (orK ((ev γ b).e env)) := id rfl
def chainL (o' : CO) (u : Va) (k : Store → Res Va) (w : Option Va) (S : Store) : Res Va := match w with
  | some (.bl b) => andR b S ((k S).bind (binL (co o') u))
  | _ => .bad
@[simp] theorem chainL_e {o' : CO} {u : Va} {k : Store → Res Va} {b : Bool} : chainL o' u k (some (.bl b)) S = andR b S ((k S).bind (binL (co o') u)) := id rfl
def chainM (o o' : CO) (k : Store → Res Va) (w : Va) (u : Va) (S : Store) : Res Va := chainL o' u k (co o w u) S
@[simp] theorem chainM_e {o o' : CO} {k : Store → Res Va} {w u : Va} : chainM o o' k w u S = chainL o' u k (co o w u) S := id rfl
def chainK (o o' : CO) (kb kc : Store → Res Va) (w : Va) (S : Store) : Res Va := (kb S).bind (chainM o o' kc w)
@[simp] theorem chainK_e {o o' : CO} {kb kc : Store → Res Va} {w : Va} : chainK o o' kb kc w S = (kb S).bind (chainM o o' kc w) := id rfl
@[simp] theorem v_chain {o o' : CO} {a b c : E} : (ev γ (.chain o o' a b c)).e env S = ((ev γ a).e env S).bind (chainK o o' ((ev γ b).e env) ((ev γ c).e env)) := id rfl
@[simp] theorem v_ife {c a b : E} : (ev γ (.ife c a b)).e env S = ((ev γ c).t env S).bind fun k => pick k ((ev γ a).e env) ((ev γ b).e env) := id rfl
def mkL (c : List Va → Va) (ws : List Va) (S : Store) : Res Va := if small ws = true then .ok (c ws) S else .bad
theorem mkL_b {c : List Va → Va} {ws : List Va} (h : ws.length ≤ sizeLine) : mkL c ws S = .ok (c ws) S := if_pos (decide_eq_true h)
@[simp] theorem mkL_e {c : List Va → Va} {ws : List Va} (h : ws.length ≤ 1000) : mkL c ws S = .ok (c ws) S := mkL_b (Nat.le_trans h (by decide))
@[simp] theorem v_tup {l : E} : (ev γ (.tup l)).e env S = ((ev γ l).a env S).bind (mkL .tup) := id rfl
@[simp] theorem v_lst {l : E} : (ev γ (.lst l)).e env S = ((ev γ l).a env S).bind (mkL .lst) := id rfl
def consL (w : Va) (ws : List Va) (S : Store) : Res (List Va) := .ok (w :: ws) S
@[simp] theorem consL_e {w : Va} {ws : List Va} : consL w ws S = .ok (w :: ws) S := id rfl
def consK (k : Store → Res (List Va)) (w : Va) (S : Store) : Res (List Va) := (k S).bind (consL w)
@[simp] theorem consK_e {k : Store → Res (List Va)} {w : Va} : consK k w S = (k S).bind (consL w) := id rfl
@[simp] theorem v_anil : (ev γ .anil).a env S = .ok [] S := id rfl
@[simp] theorem v_acons {a r : E} : (ev γ (.acons a r)).a env S = ((ev γ a).e env S).bind (consK ((ev γ r).a env)) := id rfl
def prK (p : P) (ws : List Va) (S : Store) : Res Va := lift (pr p ws) S
@[simp] theorem prK_e {p : P} {ws : List Va} : prK p ws S = lift (pr p ws) S := id rfl
@[simp] theorem v_prim {p : P} {l : E} : (ev γ (.prim p l)).e env S = ((ev γ l).a env S).bind (prK p) := id rfl
def callY (o : Option (List Va → Store → Res Va)) (k : Store → Res (List Va)) (S : Store) : Res Va := match o with
  | some g => (k S).bind g
  | none => .bad
@[simp] theorem callY_e {g : List Va → Store → Res Va} {k : Store → Res (List Va)} : callY (some g) k S = (k S).bind g := id rfl
@[simp] theorem v_call {f : String} {l : E} : (ev γ (.call f l)).e env S = callY (γ.fn f) ((ev γ l).a env) S := by
  show fFn (γ.fn f) (fun g => fCall g (ev γ l).a) env S = _
  cases q : γ.fn f <;> rfl
/-- tests -/
def truK (w : Va) (S : Store) : Res Bool := lift (truth w) S
@[simp] theorem truK_e {w : Va} : truK w S = lift (truth w) S := id rfl
@[simp] theorem t_con {w : Va} : (ev γ (.con w)).t env S = lift (truth w) S := id rfl
@[simp] theorem t_var {i : Nat} : (ev γ (.var i)).t env S = (fVar i env S).bind truK := id rfl
@[simp] theorem t_cmpS {o : CO} {a b : E} : (ev γ (.cmp o a b)).t env S = ((ev γ (.cmp o a b)).e env S).bind truK := id rfl
@[simp] theorem t_chainS {o o' : CO} {a b c : E} : (ev γ (.chain o o' a b c)).t env S = ((ev γ (.chain o o' a b c)).e env S).bind truK := id rfl
@[simp] theorem t_prim {p : P} {l : E} : (ev γ (.prim p l)).t env S = ((ev γ (.prim p l)).e env S).bind truK := id rfl
@[simp] theorem t_call {f : String} {l : E} : (ev γ (.call f l)).t env S = ((ev γ (.call f l)).e env S).bind truK := id rfl
@[simp] theorem t_ix {a b : E} : (ev γ (.ix a b)).t env S = ((ev γ (.ix a b)).e env S).bind truK := id rfl
@[simp] theorem t_bin {o : B2} {a b : E} : (ev γ (.bin o a b)).t env S = ((ev γ (.bin o a b)).e env S).bind truK := id rfl
def notB (c : Bool) (S : Store) : Res Bool := .ok (!c) S
@[simp] theorem notB_e {c : Bool} : notB c S = .ok (!c) S := id rfl
def andT (k : Store → Res Bool) (c : Bool) (S : Store) : Res Bool := andB c S (k S)
def orT (k : Store → Res Bool) (c : Bool) (S : Store) : Res Bool := orB c S (k S)
@[simp] theorem andT_e {k : Store → Res Bool} {c : Bool} : andT k c S = andB c S (k S) := id rfl
@[simp] theorem orT_e {k : Store → Res Bool} {c : Bool} : orT k c S = orB c S (k S) := id rfl
@[simp] theorem t_notS {a : E} : (ev γ (.not a)).t env S = ((ev γ a).t env S).bind notB := id rfl
@[simp] theorem t_andS {a b : E} : (ev γ (.and a b)).t env S = ((ev γ a).t env S).bind (andT ((ev γ b).t env)) := id rfl
@[simp] theorem t_orS {a b : E} : (ev γ (.or a b)).t env S = ((ev γ a).t env S).bind (orT ((ev γ b).t env)) := id rfl
@[simp] theorem t_yes : (ev γ .yes).t env S = .ok true S := id rfl
def lrgK (ws : List Va) (S : Store) : Res Va := lift (rng3L ws) S
@[simp] theorem lrgK_e {ws : List Va} : lrgK ws S = lift (rng3L ws) S := id rfl
@[simp] theorem v_lrg {l : E} : (ev γ (.lrg l)).e env S = ((ev γ l).a env S).bind lrgK := id rfl
def slM (w : Va) (lo : Option Int) (hi : Option Int) (S : Store) : Res Va := lift (vSl lo hi w) S
@[simp] theorem slM_e {w : Va} {lo hi : Option Int} : slM w lo hi S = lift (vSl lo hi w) S := id rfl
def slL (kh : Store → Res (Option Int)) (w : Va) (lo : Option Int) (S : Store) : Res Va := (kh S).bind (slM w lo)
@[simp] theorem slL_e {kh : Store → Res (Option Int)} {w : Va} {lo : Option Int} : slL kh w lo S = (kh S).bind (slM w lo) := id rfl
def slK (kl kh : Store → Res (Option Int)) (w : Va) (S : Store) : Res Va := (kl S).bind (slL kh w)
@[simp] theorem slK_e {kl kh : Store → Res (Option Int)} {w : Va} : slK kl kh w S = (kl S).bind (slL kh w) := id rfl
def partK (w : Va) (S : Store) : Res (Option Int) := match w with
  | .int i => .ok (some i) S
  | _ => .bad
@[simp] theorem partK_e : partK (.int i) S = .ok (some i) S := id rfl
@[simp] theorem optI_t {f : Evn → Store → Res Va} : optI true f env S = .ok none S := id rfl
@[simp] theorem optI_f {f : Evn → Store → Res Va} : optI false f env S = (f env S).bind partK := id rfl
@[simp] theorem v_sl {a lo hi : E} : (ev γ (.sl a lo hi)).e env S = ((ev γ a).e env S).bind (slK (optI (isAbs lo) (ev γ lo).e env) (optI (isAbs hi) (ev γ hi).e env)) := id rfl
def olK (ws : List Va) (S : Store) : Res Va := if small ws = true then .ok (.ref S.length) (S ++ [.lst ws]) else .bad
@[simp] theorem olK_e {ws : List Va} (h : ws.length ≤ 1000) : olK ws S = .ok (.ref S.length) (S ++ [.lst ws]) := if_pos (decide_eq_true (Nat.le_trans h (by decide)))
@[simp] theorem v_ol {l : E} : (ev γ (.olst l)).e env S = ((ev γ l).a env S).bind olK := id rfl
def binSL (o : Store → Va → Va → Option Va) (w : Va) (u : Va) (S : Store) : Res Va := lift (o S w u) S
@[simp] theorem binSL_e {o : Store → Va → Va → Option Va} {w u : Va} : binSL o w u S = lift (o S w u) S := id rfl
def binSK (o : Store → Va → Va → Option Va) (k : Store → Res Va) (w : Va) (S : Store) : Res Va := (k S).bind (binSL o w)
@[simp] theorem binSK_e {o : Store → Va → Va → Option Va} {k : Store → Res Va} {w : Va} : binSK o k w S = (k S).bind (binSL o w) := id rfl
@[simp] theorem v_ixS {a b : E} : (ev γ (.ixS a b)).e env S = ((ev γ a).e env S).bind (binSK vIxS ((ev γ b).e env)) := id rfl
@[simp] theorem v_eqS {n : Bool} {a b : E} : (ev γ (.eqS n a b)).e env S = ((ev γ a).e env S).bind (binSK (vEqS n) ((ev γ b).e env)) := id rfl
def setSM (env : Evn) (y w u : Va) (S : Store) : RS := match setL S w u y with
  | some S4 => .nx env S4
  | none => .bad
def setSL (env : Evn) (y : Va) (kk : Store → Res Va) (w : Va) (S : Store) : RS := (kk S).toS env (setSM env y w)
@[simp] theorem setSL_e {y w : Va} {kk : Store → Res Va} : setSL env y kk w S = (kk S).toS env (setSM env y w) := id rfl
def setSK (env : Evn) (ko kk : Store → Res Va) (y : Va) (S : Store) : RS := (ko S).toS env (setSL env y kk)
@[simp] theorem setSK_e {y : Va} {ko kk : Store → Res Va} : setSK env ko kk y S = (ko S).toS env (setSL env y kk) := id rfl
@[simp] theorem k_setS {o k e : E} : evK γ (.setS o k e) env S = ((ev γ e).e env S).toS env (setSK env ((ev γ o).e env) ((ev γ k).e env)) := id rfl
def ssK (w : Va) (S : Store) : Res Va := lift (vSS w) S
@[simp] theorem ssK_e {w : Va} : ssK w S = lift (vSS w) S := id rfl
@[simp] theorem v_ssort {a : E} : (ev γ (.ssort a)).e env S = ((ev γ a).e env S).bind ssK := id rfl
@[simp] theorem v_inT {a b : E} : (ev γ (.inT a b)).e env S = ((ev γ a).e env S).bind (binK (vInD false) ((ev γ b).e env)) := id rfl
def orvL (w : Va) (k : Store → Res Va) (o : Option Bool) (S : Store) : Res Va := match o with
  | some true => .ok w S
  | some false => k S
  | none => .bad
@[simp] theorem orvL_t {w : Va} {k : Store → Res Va} : orvL w k (some true) S = .ok w S := id rfl
@[simp] theorem orvL_f {w : Va} {k : Store → Res Va} : orvL w k (some false) S = k S := id rfl
def orvK (k : Store → Res Va) (w : Va) (S : Store) : Res Va := orvL w k (truth w) S
@[simp] theorem orvK_e {k : Store → Res Va} {w : Va} : orvK k w S = orvL w k (truth w) S := id rfl
@[simp] theorem v_orv {a b : E} : (ev γ (.orv a b)).e env S = ((ev γ a).e env S).bind (orvK ((ev γ b).e env)) := id rfl
def callO0 (o : Option (List Va → Store → Res Va)) (S : Store) : Res Va := match o with
  | some g => g [] S
  | none => .bad
@[simp] theorem callO0_e {g : List Va → Store → Res Va} : callO0 (some g) S = g [] S := id rfl
@[simp] theorem v_call0 {f : String} : (ev γ (.call0 f)).e env S = callO0 (γ.fn f) S := by
  show fFn (γ.fn f) (fun g => fCall g fNil) env S = _
  cases q : γ.fn f <;> rfl
def isEK (γ : Ga) (ws : List Va) (S : Store) : Res Va := lift (vIsE γ.sub γ.subT ws) S
@[simp] theorem isEK_e {ws : List Va} : isEK γ ws S = lift (vIsE γ.sub γ.subT ws) S := id rfl
@[simp] theorem v_isE {l : E} : (ev γ (.isE l)).e env S = ((ev γ l).a env S).bind (isEK γ) := id rfl
@[simp] theorem t_eqS {n : Bool} {a b : E} : (ev γ (.eqS n a b)).t env S = ((ev γ (.eqS n a b)).e env S).bind truK := id rfl
@[simp] theorem t_sl {a lo hi : E} : (ev γ (.sl a lo hi)).t env S = ((ev γ (.sl a lo hi)).e env S).bind truK := id rfl
@[simp] theorem t_inT {a b : E} : (ev γ (.inT a b)).t env S = ((ev γ (.inT a b)).e env S).bind truK := id rfl
@[simp] theorem t_isE {l : E} : (ev γ (.isE l)).t env S = ((ev γ (.isE l)).e env S).bind truK := id rfl
@[simp] theorem k_kept {t : String} {i j : Nat} {b : Ks} : evK γ (.kept t i j b) env S = keptR γ.sub t i j (evK γ b env S) := id rfl
def rngK (ws : List Va) (S : Store) : Res (List Va) := lift (rng ws) S
@[simp] theorem rngK_e {ws : List Va} : rngK ws S = lift (rng ws) S := id rfl
def itK (w : Va) (S : Store) : Res (List Va) := lift (items w) S
@[simp] theorem itK_e {w : Va} : itK w S = lift (items w) S := id rfl
@[simp] theorem i_ssort {a : E} : (ev γ (.ssort a)).i env S = ((ev γ (.ssort a)).e env S).bind itK := id rfl
@[simp] theorem i_sl {a lo hi : E} : (ev γ (.sl a lo hi)).i env S = ((ev γ (.sl a lo hi)).e env S).bind itK := id rfl
@[simp] theorem i_rng {l : E} : (ev γ (.itR l)).i env S = ((ev γ l).a env S).bind rngK := id rfl
@[simp] theorem i_var {i : Nat} : (ev γ (.var i)).i env S = (fVar i env S).bind itK := id rfl
@[simp] theorem i_call {f : String} {l : E} : (ev γ (.call f l)).i env S = ((ev γ (.call f l)).e env S).bind itK := id rfl
@[simp] theorem i_ix {a b : E} : (ev γ (.ix a b)).i env S = ((ev γ (.ix a b)).e env S).bind itK := id rfl
@[simp] theorem i_prim {p : P} {l : E} : (ev γ (.prim p l)).i env S = ((ev γ (.prim p l)).e env S).bind itK := id rfl
@[simp] theorem i_lst {l : E} : (ev γ (.lst l)).i env S = ((ev γ (.lst l)).e env S).bind itK := id rfl
@[simp] theorem i_tup {l : E} : (ev γ (.tup l)).i env S = ((ev γ (.tup l)).e env S).bind itK := id rfl
@[simp] theorem i_lc {tg : Tg} {vs : List Nat} {it t e : E} : (ev γ (.lc tg vs it t e)).i env S = ((ev γ (.lc tg vs it t e)).e env S).bind itK := id rfl
@[simp] theorem i_bin {o : B2} {a b : E} : (ev γ (.bin o a b)).i env S = ((ev γ (.bin o a b)).e env S).bind itK := id rfl
/-- a comprehension over given items -/
def lcW (γ : Ga) (tg : Tg) (vs : List Nat) (t e : E) (env : Evn) (ws : List Va) (S : Store) : Res Va := if small ws = true then (noEx (lcL (tgB tg) (ev γ t).t (ev γ e).e (wipeE env vs) ws S)).bind fun ys S2 => .ok (.lst ys) S2 else .bad
@[simp] theorem v_lc {tg : Tg} {vs : List Nat} {it t e : E} : (ev γ (.lc tg vs it t e)).e env S = ((ev γ it).i env S).bind (lcW γ tg vs t e env) := id rfl
/-! statements -/
def setK (i : Nat) (env : Evn) (w : Va) (S : Store) : RS := .nx (env.set i (.val w)) S
@[simp] theorem setK_e {i : Nat} {w : Va} : setK i env w S = .nx (env.set i (.val w)) S := id rfl
def dropK (env : Evn) (w : Va) (S : Store) : RS := .nx env S
@[simp] theorem dropK_e {w : Va} : dropK env w S = .nx env S := id rfl
@[simp] theorem k_skip : evK γ .skip env S = .nx env S := id rfl
@[simp] theorem k_seq {a b : Ks} : evK γ (.seq a b) env S = (evK γ a env S).andThen (evK γ b) := id rfl
@[simp] theorem k_asg {i : Nat} {e : E} : evK γ (.asg i e) env S = ((ev γ e).e env S).toS env (setK i env) := id rfl
@[simp] theorem k_ret {e : E} : evK γ (.ret e) env S = ((ev γ e).e env S).toS env .rt := id rfl
@[simp] theorem k_retN : evK γ .retN env S = .rt .non S := id rfl
@[simp] theorem k_expr {e : E} : evK γ (.expr e) env S = ((ev γ e).e env S).toS env (dropK env) := id rfl
@[simp] theorem k_ife {c : E} {a b : Ks} : evK γ (.ife c a b) env S = ((ev γ c).t env S).toS env fun k => pick k (evK γ a env) (evK γ b env) := id rfl
@[simp] theorem k_raise {c : String} : evK γ (.raise c) env S = .ex c none env S := id rfl
@[simp] theorem k_whl {c : E} {b : Ks} : evK γ (.whl c b) env S = sWhile (ev γ c).t (evK γ b) γ.fuel env S := id rfl
def forK (bind : Va → Evn → Option Evn) (f : Evn → Store → RS) (env : Evn) (ws : List Va) (S : Store) : RS := forL bind f ws env S
@[simp] theorem k_for {tg : Tg} {it : E} {b : Ks} : evK γ (.for_ tg it b) env S = ((ev γ it).i env S).toS env (forK (tgB tg) (evK γ b) env) := id rfl
/-- a def's end -/
def endK (r : RS) : Res Va := match r with
  | .nx _ S' => .ok .non S'
  | .rt w S' => .ok w S'
  | .ex c a _ S' => .ex c a S'
  | .bad => .bad
@[simp] theorem end_nx : endK (.nx env S) = .ok .non S := id rfl
@[simp] theorem end_rt {w : Va} : endK (.rt w S) = .ok w S := id rfl
@[simp] theorem end_ex {c : String} {a : Option Int} : endK (.ex c a env S) = .ex c a S := id rfl
@[simp] theorem end_bad : endK .bad = .bad := id rfl
theorem run_d {d : Dx} {ws : List Va} (h : ws.length = d.np) : Dx.run γ d ws S = endK (evK γ d.k (ws.map .val ++ List.replicate (d.N.length - d.np) .no) S) := by
  unfold Dx.run bodyS
  rw [if_pos h]
  rfl
end
/-! ### loops -/
/-- a while loop whose state goes through e 0, e 1, .. -/
theorem while_run {gc : Evn → Store → Res Bool} {f : Evn → Store → RS} {S : Store} (e : Nat → Evn) : ∀ (m n i : Nat), m < n → (∀ j, i ≤ j → j < i + m → gc (e j) S = .ok true S ∧ f (e j) S = .nx (e (j + 1)) S) → gc (e (i + m)) S = .ok false S → sWhile gc f n (e i) S = .nx (e (i + m)) S
  | m, 0, _, h, _, _ => absurd h (Nat.not_lt_zero m)
  | 0, n + 1, i, _, _, h2 => by
    unfold sWhile
    have h2 : gc (e i) S = .ok false S := h2
    rw [h2]
    rfl
  | m + 1, n + 1, i, h, h1, h2 => by
    unfold sWhile
    obtain ⟨q1, q2⟩ := h1 i (Nat.le_refl _) (by omega)
    rw [q1]
    show (f (e i) S).andThen (sWhile gc f n) = _
    rw [q2]
    show sWhile gc f n (e (i + 1)) S = _
    rw [while_run e m n (i + 1) (by omega) (fun j a b => h1 j (by omega) (by omega)) (by rw [Nat.add_assoc, Nat.add_comm 1 m]; exact h2), Nat.add_assoc, Nat.add_comm 1 m]
/-- a for loop whose state goes through e 0, e 1, .. -/
theorem for_run {bind : Va → Evn → Option Evn} {f : Evn → Store → RS} {S : Store} (e : Nat → Evn) : ∀ (ws : List Va) (i : Nat), (∀ j w, ws[j]? = some w → ∃ e1, bind w (e (i + j)) = some e1 ∧ f e1 S = .nx (e (i + j + 1)) S) → forL bind f ws (e i) S = .nx (e (i + ws.length)) S
  | [], i, _ => rfl
  | w :: ws, i, h => by
    unfold forL
    obtain ⟨e1, h1, h2⟩ := h 0 w rfl
    have h1 : bind w (e i) = some e1 := h1
    have h2 : f e1 S = .nx (e (i + 1)) S := h2
    rw [h1]
    show (f e1 S).andThen _ = _
    rw [h2]
    show forL bind f ws (e (i + 1)) S = _
    rw [for_run e ws (i + 1) fun j u hj => ?_]
    · rw [List.length_cons, Nat.add_assoc, Nat.add_comm 1 ws.length]
    · have := h (j + 1) u (by simpa using hj)
      rw [Nat.add_assoc i 1 j, Nat.add_comm 1 j]
      exact this
/-- a comprehension's items, one by one, none left out -/
theorem lc_run {bind : Va → Evn → Option Evn} {fe : Evn → Store → Res Va} {env : Evn} {S : Store} (g : Va → Va) : ∀ (ws : List Va), (∀ w ∈ ws, ∃ e1, bind w env = some e1 ∧ fe e1 S = .ok (g w) S) → lcL bind (fun _ S => .ok true S) fe env ws S = .ok (ws.map g) S
  | [], _ => rfl
  | w :: ws, h => by
    unfold lcL
    obtain ⟨e1, h1, h2⟩ := h w List.mem_cons_self
    rw [h1]
    show (fe e1 S).bind (fun y S2 => (lcL bind (fun _ S => .ok true S) fe env ws S2).bind fun ys S3 => .ok (y :: ys) S3) = _
    rw [h2, rb_ok, lc_run g ws fun u hu => h u (List.mem_cons_of_mem _ hu)]
    rfl
/-- the same from the loop's beginning -/
theorem while_go {gc : Evn → Store → Res Bool} {f : Evn → Store → RS} {S : Store} {env : Evn} {n : Nat} (e : Nat → Evn) (m : Nat) (h0 : env = e 0) (hm : m < n) (h1 : ∀ j, j < m → gc (e j) S = .ok true S ∧ f (e j) S = .nx (e (j + 1)) S) (h2 : gc (e m) S = .ok false S) : sWhile gc f n env S = .nx (e m) S := by
  subst h0
  have := while_run (gc := gc) (f := f) (S := S) e m n 0 hm (fun j _ h => h1 j (by omega)) (by rw [Nat.zero_add]; exact h2)
  rw [Nat.zero_add] at this
  exact this
theorem for_go {bind : Va → Evn → Option Evn} {f : Evn → Store → RS} {S : Store} {env : Evn} {ws : List Va} (e : Nat → Evn) (h0 : env = e 0) (h : ∀ j w, ws[j]? = some w → ∃ e1, bind w (e j) = some e1 ∧ f e1 S = .nx (e (j + 1)) S) : forK bind f env ws S = .nx (e ws.length) S := by
  subst h0
  have := for_run (bind := bind) (f := f) (S := S) e ws 0 (fun j w hw => by rw [Nat.zero_add]; exact h j w hw)
  rw [Nat.zero_add] at this
  exact this
end Mi
end
section
/-! Mi, part R: what is built in, read by simp. -/
namespace Mi
open PySem PySem.Spec PyProof.Rows L2
section
variable {i j : Int} {l : List Va} {S : Store} {env : Evn}
@[simp] theorem p_len_lst : pr .len [.lst l] = some (.int l.length) := id rfl
@[simp] theorem p_len_tup : pr .len [.tup l] = some (.int l.length) := id rfl
@[simp] theorem p_len_scr {ns : List Int} : pr .len [.scr ns] = some (.int ns.length) := id rfl
theorem p_len_str {s : List Nat} (h : s.length ≤ sizeLine) : pr .len [.str s] = some (.int s.length) := if_pos h
@[simp] theorem p_int_int : pr .int [.int i] = some (.int i) := id rfl
@[simp] theorem p_int_bl {b : Bool} : pr .int [.bl b] = some (.int (if b then 1 else 0)) := id rfl
@[simp] theorem p_abs : pr .abs [.int i] = some (.int (if i < 0 then -i else i)) := id rfl
@[simp] theorem p_max2 : pr .max [.int i, .int j] = some (.int (if j > i then j else i)) := id rfl
@[simp] theorem p_min2 : pr .min [.int i, .int j] = some (.int (if j < i then j else i)) := id rfl
theorem p_sum {ns : List Int} : pr .sum [.lst (ns.map .int)] = some (.int ns.sum) := by
  show (intsOf (ns.map Va.int)).map (fun ns => Va.int ns.sum) = _
  rw [intsOf_map] <;> rfl
theorem p_all {bs : List Bool} : pr .all [.lst (bs.map .bl)] = some (.bl (bs.all id)) := by
  show (blsOf (bs.map Va.bl)).map (fun bs => Va.bl (bs.all id)) = _
  rw [blsOf_map] <;> rfl
theorem p_any {bs : List Bool} : pr .any [.lst (bs.map .bl)] = some (.bl (bs.any id)) := by
  show (blsOf (bs.map Va.bl)).map (fun bs => Va.bl (bs.any id)) = _
  rw [blsOf_map] <;> rfl
@[simp] theorem p_list_lst : pr .list [.lst l] = some (.lst l) := id rfl
@[simp] theorem p_list_tup : pr .list [.tup l] = some (.lst l) := id rfl
@[simp] theorem p_tuple_lst : pr .tuple [.lst l] = some (.tup l) := id rfl
@[simp] theorem p_tuple_tup : pr .tuple [.tup l] = some (.tup l) := id rfl
theorem p_is {w : Va} {t n : String} {b : Bool} (h1 : tyName w = some n) (h2 : isTyB n t = some b) : pr .isinst [w, .ty t] = some (.bl b) := by
  show (match tyName w with | some n => (isTyB n t).map Va.bl | none => none) = _
  rw [h1]
  show (isTyB n t).map Va.bl = _
  rw [h2] <;> rfl
@[simp] theorem p_is_int_int : pr .isinst [.int i, .ty "int"] = some (.bl true) := p_is rfl (by decide)
@[simp] theorem p_is_int_bool : pr .isinst [.int i, .ty "bool"] = some (.bl false) := p_is rfl (by decide)
@[simp] theorem p_is_int_tuple : pr .isinst [.int i, .ty "tuple"] = some (.bl false) := p_is rfl (by decide)
@[simp] theorem p_is_int_list : pr .isinst [.int i, .ty "list"] = some (.bl false) := p_is rfl (by decide)
@[simp] theorem p_is_int_str : pr .isinst [.int i, .ty "str"] = some (.bl false) := p_is rfl (by decide)
@[simp] theorem p_is_bl_int {b : Bool} : pr .isinst [.bl b, .ty "int"] = some (.bl true) := p_is rfl (by decide)
@[simp] theorem p_is_bl_bool {b : Bool} : pr .isinst [.bl b, .ty "bool"] = some (.bl true) := p_is rfl (by decide)
@[simp] theorem p_is_tup_tuple : pr .isinst [.tup l, .ty "tuple"] = some (.bl true) := p_is rfl (by decide)
@[simp] theorem p_is_tup_int : pr .isinst [.tup l, .ty "int"] = some (.bl false) := p_is rfl (by decide)
@[simp] theorem p_is_tup_list : pr .isinst [.tup l, .ty "list"] = some (.bl false) := p_is rfl (by decide)
@[simp] theorem p_is_lst_list : pr .isinst [.lst l, .ty "list"] = some (.bl true) := p_is rfl (by decide)
@[simp] theorem p_is_lst_tuple : pr .isinst [.lst l, .ty "tuple"] = some (.bl false) := p_is rfl (by decide)
@[simp] theorem p_is_lst_int : pr .isinst [.lst l, .ty "int"] = some (.bl false) := p_is rfl (by decide)
@[simp] theorem p_is_str_str {s : List Nat} : pr .isinst [.str s, .ty "str"] = some (.bl true) := p_is rfl (by decide)
@[simp] theorem p_is_str_int {s : List Nat} : pr .isinst [.str s, .ty "int"] = some (.bl false) := p_is rfl (by decide)
@[simp] theorem p_is_non_int : pr .isinst [.non, .ty "int"] = some (.bl false) := p_is rfl (by decide)
@[simp] theorem p_is_non_bool : pr .isinst [.non, .ty "bool"] = some (.bl false) := p_is rfl (by decide)
@[simp] theorem p_is_non_tuple : pr .isinst [.non, .ty "tuple"] = some (.bl false) := p_is rfl (by decide)
@[simp] theorem p_is_non_list : pr .isinst [.non, .ty "list"] = some (.bl false) := p_is rfl (by decide)
@[simp] theorem p_is_non_str : pr .isinst [.non, .ty "str"] = some (.bl false) := p_is rfl (by decide)
@[simp] theorem tr_lst : truth (.lst l) = some (!l.isEmpty) := id rfl
@[simp] theorem tr_tup : truth (.tup l) = some (!l.isEmpty) := id rfl
@[simp] theorem tr_scr {ns : List Int} : truth (.scr ns) = some (!ns.isEmpty) := id rfl
@[simp] theorem tr_non : truth .non = some false := id rfl
/-- equality of data -/
@[simp] theorem q_eqV {a b : Va} (h1 : cl 8 a = true) (h2 : cl 8 b = true) : co .eq a b = some (.bl (decide (a = b))) := by
  show vEq false a b = _
  have h : (cl 8 a && cl 8 b) = true := by rw [h1, h2] <;> rfl
  cases a <;> cases b <;> first | exact if_pos h | rfl | (cases h1)
@[simp] theorem q_neV {a b : Va} (h1 : cl 8 a = true) (h2 : cl 8 b = true) : co .ne a b = some (.bl (!decide (a = b))) := by
  show vEq true a b = _
  have h : (cl 8 a && cl 8 b) = true := by rw [h1, h2] <;> rfl
  cases a <;> cases b <;> first | exact if_pos h | rfl | (cases h1)
@[simp] theorem c_int' (n : Nat) : cl n (.int i) = true := cl_int n i
@[simp] theorem c_non' (n : Nat) : cl n .non = true := cl_non n
@[simp] theorem c_str' (n : Nat) {s : List Nat} : cl n (.str s) = s.all (· < 1114112) := cl_str n s
@[simp] theorem cl8_tup : cl 8 (.tup l) = l.all (cl 7) := id rfl
@[simp] theorem cl8_lst : cl 8 (.lst l) = l.all (cl 7) := id rfl
@[simp] theorem cl7_tup : cl 7 (.tup l) = l.all (cl 6) := id rfl
@[simp] theorem cl7_lst : cl 7 (.lst l) = l.all (cl 6) := id rfl
@[simp] theorem cl6_tup : cl 6 (.tup l) = l.all (cl 5) := id rfl
@[simp] theorem cl6_lst : cl 6 (.lst l) = l.all (cl 5) := id rfl
@[simp] theorem cl5_tup : cl 5 (.tup l) = l.all (cl 4) := id rfl
@[simp] theorem cl5_lst : cl 5 (.lst l) = l.all (cl 4) := id rfl
@[simp] theorem flatW_int : flatW (.int i) = true := id rfl
@[simp] theorem flatW_str {s : List Nat} : flatW (.str s) = true := id rfl
@[simp] theorem flatW_non : flatW .non = true := id rfl
@[simp] theorem q_in_tup {w : Va} (h : (flatW w && l.all flatW) = true) : co .in_ w (.tup l) = some (.bl (decide (w ∈ l))) := by
  show (seqIn false w l).or _ = _
  unfold seqIn
  rw [if_pos h] <;> rfl
@[simp] theorem q_in_lst {w : Va} (h : (flatW w && l.all flatW) = true) : co .in_ w (.lst l) = some (.bl (decide (w ∈ l))) := by
  show (seqIn false w l).or _ = _
  unfold seqIn
  rw [if_pos h] <;> rfl
@[simp] theorem q_ni_tup {w : Va} (h : (flatW w && l.all flatW) = true) : co .notin w (.tup l) = some (.bl (!decide (w ∈ l))) := by
  show (seqIn true w l).or _ = _
  unfold seqIn
  rw [if_pos h] <;> rfl
@[simp] theorem q_ni_lst {w : Va} (h : (flatW w && l.all flatW) = true) : co .notin w (.lst l) = some (.bl (!decide (w ∈ l))) := by
  show (seqIn true w l).or _ = _
  unfold seqIn
  rw [if_pos h] <;> rfl
@[simp] theorem ix_lst : vIx (.lst l) (.int i) = atI l i := id rfl
@[simp] theorem ix_tup : vIx (.tup l) (.int i) = atI l i := id rfl
@[simp] theorem ix_scr {ns : List Int} : vIx (.scr ns) (.int i) = (atI ns i).map .int := id rfl
theorem at_pos {α : Type} {xs : List α} (h0 : 0 ≤ i) (h : i < xs.length) : atI xs i = xs[i.toNat]? := by
  unfold atI ixN
  rw [if_pos h0, if_pos h]
  rfl
theorem at_get {α : Type} {xs : List α} {k : Nat} (h : k < xs.length) : atI xs (k : Int) = some xs[k] := by
  rw [at_pos (by omega) (by omega), Int.toNat_natCast, List.getElem?_eq_getElem h]
@[simp] theorem at_0 {α : Type} {x : α} {xs : List α} : atI (x :: xs) 0 = some x := by
  rw [at_pos (by omega) (by simp only [List.length_cons]; omega)] <;> rfl
@[simp] theorem at_1 {α : Type} {x y : α} {xs : List α} : atI (x :: y :: xs) 1 = some y := by
  rw [at_pos (by omega) (by simp only [List.length_cons]; omega)] <;> rfl
@[simp] theorem at_2 {α : Type} {x y z : α} {xs : List α} : atI (x :: y :: z :: xs) 2 = some z := by
  rw [at_pos (by omega) (by simp only [List.length_cons]; omega)] <;> rfl
@[simp] theorem at_3 {α : Type} {x y z u : α} {xs : List α} : atI (x :: y :: z :: u :: xs) 3 = some u := by
  rw [at_pos (by omega) (by simp only [List.length_cons]; omega)] <;> rfl
@[simp] theorem it_lst : items (.lst l) = some l := id rfl
@[simp] theorem it_tup : items (.tup l) = some l := id rfl
@[simp] theorem it_scr {ns : List Int} : items (.scr ns) = some (ns.map .int) := id rfl
theorem rng_1 (h : -4611686018427387904 ≤ j ∧ j < 4611686018427387904) : rng [.int j] = some (upto 0 1 j.toNat) := if_pos h
theorem rng_2 (h : -4611686018427387904 ≤ i ∧ i < 4611686018427387904 ∧ -4611686018427387904 ≤ j ∧ j < 4611686018427387904) : rng [.int i, .int j] = some (upto i 1 (j - i).toNat) := if_pos h
theorem upto_get? {lo c : Int} {n k : Nat} (h : k < n) : (upto lo c n)[k]? = some (.int (lo + (k : Int) * c)) := by
  unfold upto
  rw [List.getElem?_map, List.getElem?_range h] <;> rfl
theorem upto_mem {lo c : Int} {n : Nat} {w : Va} (h : w ∈ upto lo c n) : ∃ k : Nat, k < n ∧ w = .int (lo + (k : Int) * c) := by
  unfold upto at h
  obtain ⟨k, hk, e⟩ := List.mem_map.mp h
  exact ⟨k, List.mem_range.mp hk, e.symm⟩
theorem lcW_e {γ : Ga} {tg : Tg} {vs : List Nat} {t e : E} {ws : List Va} (h : ws.length ≤ sizeLine) : lcW γ tg vs t e env ws S = (noEx (lcL (tgB tg) (ev γ t).t (ev γ e).e (wipeE env vs) ws S)).bind fun ys S2 => .ok (.lst ys) S2 := if_pos (decide_eq_true h)
/-- a comprehension without a test -/
theorem lcW_map {γ : Ga} {tg : Tg} {vs : List Nat} {e : E} {ws : List Va} (g : Va → Va) (h : ws.length ≤ sizeLine) (hg : ∀ w ∈ ws, ∃ e1, tgB tg w (wipeE env vs) = some e1 ∧ (ev γ e).e e1 S = .ok (g w) S) : lcW γ tg vs .yes e env ws S = .ok (.lst (ws.map g)) S := by
  rw [lcW_e h]
  have : lcL (tgB tg) (ev γ .yes).t (ev γ e).e (wipeE env vs) ws S = .ok (ws.map g) S := lc_run g ws hg
  rw [this]
  rfl
@[simp] theorem tgB_one {k : Nat} {w : Va} : tgB (.one k) w env = some (env.set k (.val w)) := id rfl

/-! several targets, own lists, attributes -/
def bindT (is : List Nat) (env : Evn) (w : Va) (S : Store) : RS := match bTup is w env with
  | some env1 => .nx env1 S
  | none => .bad
@[simp] theorem k_asgT {γ : Ga} {is : List Nat} {e : E} : evK γ (.asgT is e) env S = ((ev γ e).e env S).toS env (bindT is env) := id rfl
@[simp] theorem bindT_e {is : List Nat} {ws : List Va} : bindT is env (.tup ws) S = (match bNames is ws env with | some env1 => .nx env1 S | none => .bad) := id rfl
@[simp] theorem bN_nil : bNames [] [] env = some env := id rfl
@[simp] theorem bN_cons {k : Nat} {is : List Nat} {w : Va} {ws : List Va} : bNames (k :: is) (w :: ws) env = bNames is ws (env.set k (.val w)) := id rfl
@[simp] theorem tgB_many {is : List Nat} {ws : List Va} : tgB (.many is) (.tup ws) env = bNames is ws env := id rfl
def parT (a b : Nat) (env : Evn) (ws : List Va) (S : Store) : RS := match ws with
  | [w, u] => .nx ((env.set a (.val w)).set b (.val u)) S
  | _ => .bad
@[simp] theorem k_par {γ : Ga} {a b : Nat} {l : E} : evK γ (.par a b l) env S = ((ev γ l).a env S).toS env (parT a b env) := id rfl
@[simp] theorem parT_e {a b : Nat} {w u : Va} : parT a b env [w, u] S = .nx ((env.set a (.val w)).set b (.val u)) S := id rfl
def ownT (k : Nat) (env : Evn) (ws : List Va) (S : Store) : RS := if small ws = true then .nx (env.set k (.own ws)) S else .bad
@[simp] theorem k_ownL {γ : Ga} {k : Nat} {l : E} : evK γ (.ownL k l) env S = ((ev γ l).a env S).toS env (ownT k env) := id rfl
@[simp] theorem ownT_e {k : Nat} {ws : List Va} (h : ws.length ≤ 1000) : ownT k env ws S = .nx (env.set k (.own ws)) S := if_pos (decide_eq_true (Nat.le_trans h (by decide)))
def appT (k : Nat) (env : Evn) (l : List Va) (w : Va) (S : Store) : RS := if l.length < sizeLine then .nx (env.set k (.own (l ++ [w]))) S else .bad
def appK (k : Nat) (env : Evn) (f : Store → Res Va) (o : Option (List Va)) (S : Store) : RS := match o with
  | some l => (f S).toS env (appT k env l)
  | none => .bad
@[simp] theorem k_app {γ : Ga} {k : Nat} {e : E} : evK γ (.app k e) env S = appK k env ((ev γ e).e env) (ownAt env k) S := id rfl
@[simp] theorem appK_e {k : Nat} {f : Store → Res Va} {l : List Va} : appK k env f (some l) S = (f S).toS env (appT k env l) := id rfl
@[simp] theorem appT_e {k : Nat} {w : Va} (h : l.length ≤ 16777000) : appT k env l w S = .nx (env.set k (.own (l ++ [w]))) S := if_pos (by
  have : sizeLine = 16777216 := by decide
  omega)
@[simp] theorem own_0 : ownAt (.own l :: env) 0 = some l := id rfl
@[simp] theorem own_S {k : Nat} {sl : Sl} : ownAt (sl :: env) (k + 1) = ownAt env k := by
  unfold ownAt
  rw [List.getElem?_cons_succ]
@[simp] theorem k_frz {γ : Ga} {k : Nat} {c : Ks} : evK γ (.frz k c) env S = evK γ c (frz k env) S := id rfl
@[simp] theorem frz_0 : frz 0 (.own l :: env) = .val (.lst l) :: env := id rfl
@[simp] theorem frz_0v {w : Va} : frz 0 (.val w :: env) = .val w :: env := id rfl
@[simp] theorem frz_0n : frz 0 (.no :: env) = .no :: env := id rfl
@[simp] theorem frz_S {k : Nat} {sl : Sl} : frz (k + 1) (sl :: env) = sl :: frz k env := by
  unfold frz
  rw [List.getElem?_cons_succ]
  cases q : env[k]? with
  | none => rfl
  | some x => cases x <;> rfl
@[simp] theorem t_glo {γ : Ga} {x : String} : (ev γ (.glo x)).t env S = ((ev γ (.glo x)).e env S).bind truK := id rfl
@[simp] theorem i_glo {γ : Ga} {x : String} : (ev γ (.glo x)).i env S = ((ev γ (.glo x)).e env S).bind itK := id rfl
@[simp] theorem i_con {γ : Ga} {w : Va} : (ev γ (.con w)).i env S = ((ev γ (.con w)).e env S).bind itK := id rfl
/-! sums of sequences -/
theorem q_addT {a b : List Va} (h : a ≠ []) (hz : a.length + b.length ≤ 1000) : b2 .add (.tup a) (.tup b) = some (.tup (a ++ b)) := by
  show (iAdd (.tup a) (.tup b)).or ((lAdd (.tup a) (.tup b)).or ((tAddV (.tup a) (.tup b)).or _)) = _
  have : tAddV (.tup a) (.tup b) = some (.tup (a ++ b)) := if_pos ⟨h, Nat.le_trans hz (by decide)⟩
  rw [this]
  rfl
theorem rng_3 {c : Int} (h : 0 < c ∧ c < 1073741824 ∧ -4611686018427387904 ≤ i ∧ i < 4611686018427387904 ∧ -4611686018427387904 ≤ j ∧ j < 4611686018427387904) : rng [.int i, .int j, .int c] = some (upto i c (if i < j then ((j - i - 1) / c).toNat + 1 else 0)) := if_pos h
theorem lr3_e {ws l : List Va} (h : rng ws = some l) (h3 : ws.length = 3) (hz : l.length ≤ 16777216) : rng3L ws = some (.lst l) := by
  match ws, h3 with
  | [a, b, c], _ =>
    show (match rng [a, b, c] with | some l => if l.length ≤ 16777216 then some (Va.lst l) else none | none => none) = _
    rw [h]
    exact if_pos hz
theorem at_neg {α : Type} {xs : List α} (h0 : i < 0) (h : -(xs.length : Int) ≤ i) : atI xs i = xs[(i + xs.length).toNat]? := by
  unfold atI ixN
  rw [if_neg (by omega), if_pos h]
  rfl

/-! what is caught -/
section
variable {sub : String → String → Option Bool} {t c : String} {u v : Nat} {n : Option Int} {w : Va}
@[simp] theorem kept_nx : keptR sub t u v (.nx env S) = .nx env S := id rfl
@[simp] theorem kept_rt : keptR sub t u v (.rt w S) = .rt w S := id rfl
theorem kept_ex (h : sub c t = some true) : keptR sub t u v (.ex c n env S) = .nx (((env.set u (.val (.exc c n))).set v (.val (.exc c n))).set u .no) S := by
  show (match sub c t with | some true => RS.nx (((env.set u (.val (.exc c n))).set v (.val (.exc c n))).set u .no) S | some false => .ex c n env S | none => .bad) = _
  rw [h]
@[simp] theorem q_isN : co .is w .non = some (.bl (decide (w = .non))) := id rfl
@[simp] theorem q_isnN : co .isnot w .non = some (.bl (!decide (w = .non))) := id rfl
theorem at_ints {ns : List Int} {k : Int} (h0 : 0 ≤ k) (h : k < ns.length) : ∃ x, x ∈ ns ∧ atI (ns.map Va.int) k = some (.int x) := by
  have hk : k.toNat < ns.length := by omega
  refine ⟨ns[k.toNat], List.getElem_mem _, ?_⟩
  rw [at_pos h0 (by rw [List.length_map]; exact h), List.getElem?_map, List.getElem?_eq_getElem hk]
  rfl
end

/-! objects -/
section
variable {γ : Ga} {w u : Va} {c m f : String} {T : Store}
def fldK (f : String) (w : Va) (S : Store) : Res Va := lift (fldOf S w f) S
@[simp] theorem fldK_e : fldK f w S = lift (fldOf S w f) S := id rfl
@[simp] theorem v_fld {o : E} : (ev γ (.fld o f)).e env S = ((ev γ o).e env S).bind (fldK f) := id rfl
@[simp] theorem t_fld {o : E} : (ev γ (.fld o f)).t env S = ((ev γ (.fld o f)).e env S).bind truK := id rfl
@[simp] theorem i_fld {o : E} : (ev γ (.fld o f)).i env S = ((ev γ (.fld o f)).e env S).bind itK := id rfl
def setFM (γ : Ga) (f : String) (env : Evn) (u w : Va) (S : Store) : RS := match setFld γ.fld S w u f with
  | some S3 => .nx env S3
  | none => .bad
theorem setFM_e (h : setFld γ.fld S w u f = some T) : setFM γ f env u w S = .nx env T := by
  unfold setFM
  rw [h]
def setFK (γ : Ga) (f : String) (env : Evn) (ko : Store → Res Va) (u : Va) (S : Store) : RS := (ko S).toS env (setFM γ f env u)
@[simp] theorem setFK_e {ko : Store → Res Va} : setFK γ f env ko u S = (ko S).toS env (setFM γ f env u) := id rfl
@[simp] theorem k_setF {o e : E} : evK γ (.setF o f e) env S = ((ev γ e).e env S).toS env (setFK γ f env ((ev γ o).e env)) := id rfl
def methL (g : List Va → Store → Res Va) (w : Va) (ws : List Va) (S : Store) : Res Va := g (w :: ws) S
@[simp] theorem methL_e {g : List Va → Store → Res Va} {ws : List Va} : methL g w ws S = g (w :: ws) S := id rfl
def methK (c m : String) (g : List Va → Store → Res Va) (kr : Store → Res (List Va)) (w : Va) (S : Store) : Res Va := if isObj S w c m = true then (kr S).bind (methL g w) else .bad
@[simp] theorem methK_e {g : List Va → Store → Res Va} {kr : Store → Res (List Va)} (h : isObj S w c m = true) : methK c m g kr w S = (kr S).bind (methL g w) := if_pos h
def methY (c m : String) (o : Option (List Va → Store → Res Va)) (ka : Store → Res Va) (kr : Store → Res (List Va)) (S : Store) : Res Va := match o with
  | some g => (ka S).bind (methK c m g kr)
  | none => .bad
@[simp] theorem methY_e {g : List Va → Store → Res Va} {ka : Store → Res Va} {kr : Store → Res (List Va)} : methY c m (some g) ka kr S = (ka S).bind (methK c m g kr) := id rfl
@[simp] theorem v_meth {o l : E} : (ev γ (.meth c m o l)).e env S = methY c m (γ.meth c m) ((ev γ o).e env) ((ev γ l).a env) S := by
  show fFn (γ.meth c m) (fun g => fMeth c m g (ev γ o).e (ev γ l).a) env S = _
  cases q : γ.meth c m <;> rfl
@[simp] theorem t_meth {o l : E} : (ev γ (.meth c m o l)).t env S = ((ev γ (.meth c m o l)).e env S).bind truK := id rfl
@[simp] theorem i_meth {o l : E} : (ev γ (.meth c m o l)).i env S = ((ev γ (.meth c m o l)).e env S).bind itK := id rfl
def newL (k : Nat) (w : Va) (S : Store) : Res Va := if w = .non then .ok (.ref k) S else .bad
@[simp] theorem newL_e {k : Nat} : newL k .non S = .ok (.ref k) S := if_pos rfl
def newK (c : String) (g : List Va → Store → Res Va) (ws : List Va) (S : Store) : Res Va := (g (.ref S.length :: ws) (S ++ [.ins c []])).bind (newL S.length)
@[simp] theorem newK_e {g : List Va → Store → Res Va} {ws : List Va} : newK c g ws S = (g (.ref S.length :: ws) (S ++ [.ins c []])).bind (newL S.length) := id rfl
def newY (c : String) (o : Option (List Va → Store → Res Va)) (kr : Store → Res (List Va)) (S : Store) : Res Va := match o with
  | some g => (kr S).bind (newK c g)
  | none => .bad
@[simp] theorem newY_e {g : List Va → Store → Res Va} {kr : Store → Res (List Va)} : newY c (some g) kr S = (kr S).bind (newK c g) := id rfl
@[simp] theorem v_new {l : E} : (ev γ (.new c l)).e env S = newY c (γ.init c) ((ev γ l).a env) S := by
  show fFn (γ.init c) (fun g => fNew c g (ev γ l).a) env S = _
  cases q : γ.init c <;> rfl
theorem setSM_e {y : Va} (h : setL S w u y = some T) : setSM env y w u S = .nx env T := by
  unfold setSM
  rw [h]
end
/-- a for loop, by what stays true from turn to turn -/
theorem for_inv {bind : Va → Evn → Option Evn} {f : Evn → Store → RS} (I : Nat → Evn → Store → Prop) : ∀ (ws : List Va) (i : Nat) (env : Evn) (S : Store), I i env S → (∀ j w env S, ws[j]? = some w → I (i + j) env S → ∃ e1 env' S', bind w env = some e1 ∧ f e1 S = .nx env' S' ∧ I (i + j + 1) env' S') → ∃ env' S', forL bind f ws env S = .nx env' S' ∧ I (i + ws.length) env' S'
  | [], i, env, S, h0, _ => ⟨env, S, rfl, h0⟩
  | w :: ws, i, env, S, h0, h => by
    obtain ⟨e1, env', S', h1, h2, h3⟩ := h 0 w env S rfl h0
    obtain ⟨env2, S2, h4, h5⟩ := for_inv I ws (i + 1) env' S' h3 fun j u e s hj hi => by
      have := h (j + 1) u e s (by simpa using hj) (by rw [Nat.add_assoc i 1 j, Nat.add_comm 1 j] at hi; exact hi)
      rw [Nat.add_assoc i 1 j, Nat.add_comm 1 j]
      exact this
    refine ⟨env2, S2, ?_, by rw [List.length_cons, Nat.add_comm ws.length 1, ← Nat.add_assoc]; exact h5⟩
    unfold forL
    rw [h1]
    show (f e1 S).andThen _ = _
    rw [h2]
    exact h4
end
end Mi
end
section
/-! Mi, part S: loops by what stays true, with ways out; comprehensions with a test. -/
namespace Mi
open PySem PySem.Spec PyProof.Rows L2

/-- a way out: what follows is not run -/
def RS.out : RS → Prop
  | .nx _ _ => False
  | _ => True
theorem RS.out_then {r : RS} (h : r.out) (g : Evn → Store → RS) : r.andThen g = r := by
  cases r with
  | nx _ _ => exact False.elim h
  | rt _ _ => rfl
  | ex _ _ _ _ => rfl
  | bad => rfl
/-- one turn: it goes on with I, or it leaves with Q -/
def Turn (I : Evn → Store → Prop) (Q : RS → Prop) (r : RS) : Prop := (∃ env S, r = .nx env S ∧ I env S) ∨ (r.out ∧ Q r)
theorem Turn.nx {I : Evn → Store → Prop} {Q : RS → Prop} {env : Evn} {S : Store} (h : I env S) : Turn I Q (.nx env S) := .inl ⟨env, S, rfl, h⟩
theorem Turn.rt {I : Evn → Store → Prop} {Q : RS → Prop} {w : Va} {S : Store} (h : Q (.rt w S)) : Turn I Q (.rt w S) := .inr ⟨trivial, h⟩
theorem Turn.ex {I : Evn → Store → Prop} {Q : RS → Prop} {c : String} {a : Option Int} {env : Evn} {S : Store} (h : Q (.ex c a env S)) : Turn I Q (.ex c a env S) := .inr ⟨trivial, h⟩
theorem while_inv {gc : Evn → Store → Res Bool} {f : Evn → Store → RS} (I : Nat → Evn → Store → Prop) (Q : RS → Prop)
    (h : ∀ m env S, I m env S → (∃ S1, gc env S = .ok false S1 ∧ Q (.nx env S1)) ∨ (∃ S1, gc env S = .ok true S1 ∧ Turn (fun env' S' => ∃ m', m' < m ∧ I m' env' S') Q (f env S1))) :
    ∀ (n m : Nat) (env : Evn) (S : Store), m < n → I m env S → Q (sWhile gc f n env S)
  | 0, m, _, _, hm, _ => absurd hm (Nat.not_lt_zero m)
  | n + 1, m, env, S, hm, hi => by
    unfold sWhile
    rcases h m env S hi with ⟨S1, e, q⟩ | ⟨S1, e, t⟩
    · rw [e]
      exact q
    · rw [e]
      show Q ((f env S1).andThen (sWhile gc f n))
      rcases t with ⟨env', S', e', m', hm', hi'⟩ | ⟨o, q⟩
      · rw [e']
        exact while_inv I Q h n m' env' S' (by omega) hi'
      · rw [RS.out_then o]
        exact q
theorem for_turn {bind : Va → Evn → Option Evn} {f : Evn → Store → RS} (Q : RS → Prop) (ws : List Va) (I : Nat → Evn → Store → Prop)
    (h : ∀ j w env S, ws[j]? = some w → I j env S → ∃ e1, bind w env = some e1 ∧ Turn (I (j + 1)) Q (f e1 S)) (he : ∀ env S, I ws.length env S → Q (.nx env S)) :
    ∀ (vs : List Va) (i : Nat) (env : Evn) (S : Store), ws.drop i = vs → i ≤ ws.length → I i env S → Q (forL bind f vs env S)
  | [], i, env, S, hd, hl, hi => by
    have : i = ws.length := by
      have := List.drop_eq_nil_iff.mp hd
      omega
    subst this
    exact he env S hi
  | v :: vs, i, env, S, hd, hl, hi => by
    have hlt : i < ws.length := by
      by_cases c : i < ws.length
      · exact c
      · rw [List.drop_eq_nil_of_le (by omega)] at hd
        cases hd
    rw [List.drop_eq_getElem_cons hlt] at hd
    obtain ⟨hv, hd2⟩ := List.cons.inj hd
    obtain ⟨e1, hb, t⟩ := h i v env S (by rw [List.getElem?_eq_getElem hlt, hv]) hi
    unfold forL
    rw [hb]
    show Q ((f e1 S).andThen (forL bind f vs))
    rcases t with ⟨env', S', e', hi'⟩ | ⟨o, q⟩
    · rw [e']
      exact for_turn Q ws I h he vs (i + 1) env' S' hd2 hlt hi'
    · rw [RS.out_then o]
      exact q
/-- a for loop, by what stays true, with ways out -/
theorem for_q {bind : Va → Evn → Option Evn} {f : Evn → Store → RS} {env : Evn} {S : Store} (Q : RS → Prop) {ws : List Va} (I : Nat → Evn → Store → Prop) (h0 : I 0 env S)
    (h : ∀ j w env S, ws[j]? = some w → I j env S → ∃ e1, bind w env = some e1 ∧ Turn (I (j + 1)) Q (f e1 S)) (he : ∀ env S, I ws.length env S → Q (.nx env S)) : Q (forK bind f env ws S) :=
  for_turn Q ws I h he ws 0 env S rfl (Nat.zero_le _) h0
/-- a comprehension with a test -/
theorem lc_fm {bind : Va → Evn → Option Evn} {ft : Evn → Store → Res Bool} {fe : Evn → Store → Res Va} {env : Evn} {S : Store} (p : Va → Bool) (g : Va → Va) : ∀ (ws : List Va), (∀ w ∈ ws, ∃ e1, bind w env = some e1 ∧ ft e1 S = .ok (p w) S ∧ (p w = true → fe e1 S = .ok (g w) S)) → lcL bind ft fe env ws S = .ok ((ws.filter p).map g) S
  | [], _ => rfl
  | w :: ws, h => by
    unfold lcL
    obtain ⟨e1, h1, h2, h3⟩ := h w List.mem_cons_self
    have ih := lc_fm p g ws fun u hu => h u (List.mem_cons_of_mem _ hu)
    rw [h1]
    show (ft e1 S).bind (fun b S1 => if b = true then (fe e1 S1).bind fun y S2 => (lcL bind ft fe env ws S2).bind fun ys S3 => .ok (y :: ys) S3 else lcL bind ft fe env ws S1) = _
    rw [h2, rb_ok, List.filter_cons]
    cases c : p w with
    | true =>
      rw [if_pos rfl, if_pos rfl, h3 c, rb_ok, ih]
      rfl
    | false =>
      rw [if_neg (by decide), if_neg (by decide), ih]
section
variable {i j : Int} {l : List Va} {S : Store} {env : Evn}
theorem lcW_fm {γ : Ga} {tg : Tg} {vs : List Nat} {t e : E} {ws : List Va} (p : Va → Bool) (g : Va → Va) (h : ws.length ≤ sizeLine) (hg : ∀ w ∈ ws, ∃ e1, tgB tg w (wipeE env vs) = some e1 ∧ (ev γ t).t e1 S = .ok (p w) S ∧ (p w = true → (ev γ e).e e1 S = .ok (g w) S)) : lcW γ tg vs t e env ws S = .ok (.lst ((ws.filter p).map g)) S := by
  rw [lcW_e h, lc_fm p g ws hg]
  rfl
/-- the same over numbers -/
theorem lcW_ints {γ : Ga} {tg : Tg} {vs : List Nat} {t e : E} {ns : List Int} (p : Int → Bool) (g : Int → Va) (h : ns.length ≤ sizeLine) (hg : ∀ k ∈ ns, ∃ e1, tgB tg (.int k) (wipeE env vs) = some e1 ∧ (ev γ t).t e1 S = .ok (p k) S ∧ (p k = true → (ev γ e).e e1 S = .ok (g k) S)) : lcW γ tg vs t e env (ns.map .int) S = .ok (.lst ((ns.filter p).map g)) S := by
  have := lcW_fm (γ := γ) (tg := tg) (vs := vs) (t := t) (e := e) (ws := ns.map .int) (env := env) (S := S) (fun w => match w with | .int k => p k | _ => false) (fun w => match w with | .int k => g k | _ => .non) (by rw [List.length_map]; exact h) (fun w hw => by
    obtain ⟨k, hk, rfl⟩ := List.mem_map.mp hw
    exact hg k hk)
  rw [this, List.filter_map, List.map_map]
  rfl
/-- over anything that is mapped -/
theorem lcW_on {α : Type} {γ : Ga} {tg : Tg} {vs : List Nat} {t e : E} {xs : List α} (F : α → Va) (p : α → Bool) (g : α → Va) (h : xs.length ≤ sizeLine) (hg : ∀ x ∈ xs, ∃ e1, tgB tg (F x) (wipeE env vs) = some e1 ∧ (ev γ t).t e1 S = .ok (p x) S ∧ (p x = true → (ev γ e).e e1 S = .ok (g x) S)) : lcW γ tg vs t e env (xs.map F) S = .ok (.lst ((xs.filter p).map g)) S := by
  rw [lcW_e (by rw [List.length_map]; exact h)]
  have : ∀ ys : List α, (∀ x ∈ ys, x ∈ xs) → lcL (tgB tg) (ev γ t).t (ev γ e).e (wipeE env vs) (ys.map F) S = .ok ((ys.filter p).map g) S := by
    intro ys
    induction ys with
    | nil => intro _; rfl
    | cons x ys ih =>
      intro hm
      obtain ⟨e1, h1, h2, h3⟩ := hg x (hm x List.mem_cons_self)
      have ih := ih fun z hz => hm z (List.mem_cons_of_mem _ hz)
      rw [List.map_cons]
      unfold lcL
      rw [h1]
      show ((ev γ t).t e1 S).bind (fun b S1 => if b = true then ((ev γ e).e e1 S1).bind fun y S2 => (lcL (tgB tg) (ev γ t).t (ev γ e).e (wipeE env vs) (ys.map F) S2).bind fun ys S3 => .ok (y :: ys) S3 else lcL (tgB tg) (ev γ t).t (ev γ e).e (wipeE env vs) (ys.map F) S1) = _
      rw [h2, rb_ok, List.filter_cons]
      cases c : p x with
      | true =>
        rw [if_pos rfl, if_pos rfl, h3 c, rb_ok, ih]
        rfl
      | false =>
        rw [if_neg (by decide), if_neg (by decide), ih]
  rw [this xs fun _ h => h]
  rfl
theorem lcW_onY {α : Type} {γ : Ga} {tg : Tg} {vs : List Nat} {e : E} {xs : List α} (F : α → Va) (g : α → Va) (h : xs.length ≤ sizeLine) (hg : ∀ x ∈ xs, ∃ e1, tgB tg (F x) (wipeE env vs) = some e1 ∧ (ev γ e).e e1 S = .ok (g x) S) : lcW γ tg vs .yes e env (xs.map F) S = .ok (.lst (xs.map g)) S := by
  rw [lcW_on F (fun _ => true) g h fun x hx => by
    obtain ⟨e1, h1, h2⟩ := hg x hx
    exact ⟨e1, h1, rfl, fun _ => h2⟩]
  rw [List.filter_eq_self.mpr fun _ _ => rfl]
/-- a list of flat data looked through -/
theorem mem_ints {k : Int} {ns : List Int} : decide (Va.int k ∈ ns.map Va.int) = decide (k ∈ ns) := by
  rw [Bool.eq_iff_iff]
  simp
theorem in_ints {k : Int} {ns : List Int} : co .in_ (.int k) (.tup (ns.map .int)) = some (.bl (decide (k ∈ ns))) := by
  rw [← mem_ints]
  exact q_in_tup (by simp [flatW])
theorem ni_ints {k : Int} {ns : List Int} : co .notin (.int k) (.tup (ns.map .int)) = some (.bl (!decide (k ∈ ns))) := by
  rw [← mem_ints]
  exact q_ni_tup (by simp [flatW])
theorem in_intsL {k : Int} {ns : List Int} : co .in_ (.int k) (.lst (ns.map .int)) = some (.bl (decide (k ∈ ns))) := by
  rw [← mem_ints]
  exact q_in_lst (by simp [flatW])
theorem ni_intsL {k : Int} {ns : List Int} : co .notin (.int k) (.lst (ns.map .int)) = some (.bl (!decide (k ∈ ns))) := by
  rw [← mem_ints]
  exact q_ni_lst (by simp [flatW])
end
end Mi
end
section
/-! Mi, part X: more readings: own lists, sorts, chains of three, attributes as targets. -/
namespace Mi
open PySem PySem.Spec PyProof.Rows L2
section
variable {i j : Int} {γ : Ga} {env : Evn} {S : Store} {l : List Va} {w : Va}
def oIxL (l : List Va) (u : Va) (S : Store) : Res Va := match u with
  | .int k => lift (atI l k) S
  | _ => .bad
@[simp] theorem oIxL_e : oIxL l (.int i) S = lift (atI l i) S := id rfl
def oIxO (o : Option (List Va)) (k : Store → Res Va) (S : Store) : Res Va := match o with
  | some l => (k S).bind (oIxL l)
  | none => .bad
@[simp] theorem oIxO_e {k : Store → Res Va} : oIxO (some l) k S = (k S).bind (oIxL l) := id rfl
@[simp] theorem v_oIx {k : Nat} {b : E} : (ev γ (.oIx k b)).e env S = oIxO (ownAt env k) ((ev γ b).e env) S := by
  show fOIx k (ev γ b).e env S = _
  unfold fOIx oIxO
  cases ownAt env k <;> rfl
@[simp] theorem t_oIx {k : Nat} {b : E} : (ev γ (.oIx k b)).t env S = ((ev γ (.oIx k b)).e env S).bind truK := id rfl
def oLenO (o : Option (List Va)) (S : Store) : Res Va := match o with
  | some l => .ok (.int l.length) S
  | none => .bad
@[simp] theorem oLenO_e : oLenO (some l) S = .ok (.int l.length) S := id rfl
@[simp] theorem v_oLen {k : Nat} : (ev γ (.oLen k)).e env S = oLenO (ownAt env k) S := by
  show fOLen k env S = _
  unfold fOLen oLenO
  cases ownAt env k <;> rfl
def oTO (o : Option (List Va)) (S : Store) : Res Bool := match o with
  | some l => .ok (!l.isEmpty) S
  | none => .bad
@[simp] theorem oTO_e : oTO (some l) S = .ok (!l.isEmpty) S := id rfl
@[simp] theorem tr_oT {k : Nat} : (ev γ (.oT k)).t env S = oTO (ownAt env k) S := by
  show fOT k env S = _
  unfold fOT oTO
  cases ownAt env k <;> rfl
def skK (ks : KeyS) (w : Va) (S : Store) : Res Va := lift (vSK ks w) S
@[simp] theorem skK_e {ks : KeyS} : skK ks w S = lift (vSK ks w) S := id rfl
def skO (o : Option KeyS) (k : Store → Res Va) (S : Store) : Res Va := match o with
  | some ks => (k S).bind (skK ks)
  | none => .bad
@[simp] theorem skO_e {ks : KeyS} {k : Store → Res Va} : skO (some ks) k S = (k S).bind (skK ks) := id rfl
@[simp] theorem v_sk {f : String} {a : E} : (ev γ (.sk f a)).e env S = skO (γ.key f) ((ev γ a).e env) S := by
  show fKey (γ.key f) (ev γ a).e env S = _
  cases γ.key f <;> rfl
@[simp] theorem i_sk {f : String} {a : E} : (ev γ (.sk f a)).i env S = ((ev γ (.sk f a)).e env S).bind itK := id rfl
def ch3D (o' o'' : CO) (kd : Store → Res Va) (u v : Va) (S : Store) : Res Va := chainL o'' v kd (co o' u v) S
@[simp] theorem ch3D_e {o' o'' : CO} {kd : Store → Res Va} {u v : Va} : ch3D o' o'' kd u v S = chainL o'' v kd (co o' u v) S := id rfl
def ch3C (o' o'' : CO) (kc kd : Store → Res Va) (u : Va) (w : Option Va) (S : Store) : Res Va := match w with
  | some (.bl b) => andR b S ((kc S).bind (ch3D o' o'' kd u))
  | _ => .bad
@[simp] theorem ch3C_e {o' o'' : CO} {kc kd : Store → Res Va} {u : Va} {b : Bool} : ch3C o' o'' kc kd u (some (.bl b)) S = andR b S ((kc S).bind (ch3D o' o'' kd u)) := id rfl
def ch3B (o o' o'' : CO) (kc kd : Store → Res Va) (w u : Va) (S : Store) : Res Va := ch3C o' o'' kc kd u (co o w u) S
@[simp] theorem ch3B_e {o o' o'' : CO} {kc kd : Store → Res Va} {w u : Va} : ch3B o o' o'' kc kd w u S = ch3C o' o'' kc kd u (co o w u) S := id rfl
def ch3A (o o' o'' : CO) (kb kc kd : Store → Res Va) (w : Va) (S : Store) : Res Va := (kb S).bind (ch3B o o' o'' kc kd w)
@[simp] theorem ch3A_e {o o' o'' : CO} {kb kc kd : Store → Res Va} : ch3A o o' o'' kb kc kd w S = (kb S).bind (ch3B o o' o'' kc kd w) := id rfl
@[simp] theorem v_ch3 {o o' o'' : CO} {a b c d : E} : (ev γ (.ch3 o o' o'' a b c d)).e env S = ((ev γ a).e env S).bind (ch3A o o' o'' ((ev γ b).e env) ((ev γ c).e env) ((ev γ d).e env)) := id rfl
@[simp] theorem t_ch3 {o o' o'' : CO} {a b c d : E} : (ev γ (.ch3 o o' o'' a b c d)).t env S = ((ev γ (.ch3 o o' o'' a b c d)).e env S).bind truK := id rfl
/-- attributes of one name, one after another -/
def atsA (γ : Ga) (k : Nat) (fs : List String) (us : List Va) (env : Evn) (S : Store) : RS := setFs γ.fld (fVar k) fs us env S
@[simp] theorem atsA_nil {k : Nat} : atsA γ k [] [] env S = .nx env S := id rfl
def atsB (γ : Ga) (k : Nat) (f : String) (fs : List String) (u : Va) (us : List Va) (env : Evn) (w : Va) (S : Store) : RS := match setFld γ.fld S w u f with
  | some S3 => atsA γ k fs us env S3
  | none => .bad
theorem atsB_e {k : Nat} {f : String} {fs : List String} {u : Va} {us : List Va} {T : Store} (h : setFld γ.fld S w u f = some T) : atsB γ k f fs u us env w S = atsA γ k fs us env T := by
  unfold atsB
  rw [h]
@[simp] theorem atsA_cons {k : Nat} {f : String} {fs : List String} {u : Va} {us : List Va} : atsA γ k (f :: fs) (u :: us) env S = (fVar k env S).toS env (atsB γ k f fs u us env) := id rfl
def atsK (γ : Ga) (k : Nat) (fs : List String) (env : Evn) (w : Va) (S : Store) : RS := match w with
  | .tup us => atsA γ k fs us env S
  | _ => .bad
@[simp] theorem atsK_e {k : Nat} {fs : List String} {us : List Va} : atsK γ k fs env (.tup us) S = atsA γ k fs us env S := id rfl
@[simp] theorem k_asgA {k : Nat} {fs : List String} {e : E} : evK γ (.asgA k fs e) env S = ((ev γ e).e env S).toS env (atsK γ k fs env) := id rfl
end
/-! ### texts -/
section
variable {γ : Ga} {env : Evn} {S : Store}
def tmL (m : TM) (a : List Nat) (w : Va) (S : Store) : Res Va := lift (tmV m a w) S
@[simp] theorem tmL_e {m : TM} {a : List Nat} {w : Va} : tmL m a w S = lift (tmV m a w) S := id rfl
def tmK (m : TM) (k : Store → Res Va) (w : Va) (S : Store) : Res Va := match w with
  | .str a => (k S).bind (tmL m a)
  | _ => .bad
@[simp] theorem tmK_e {m : TM} {k : Store → Res Va} {a : List Nat} : tmK m k (.str a) S = (k S).bind (tmL m a) := id rfl
theorem fTmK_eq {m : TM} {fa : Evn → Store → Res Va} : fTmK (tmV m) fa env = tmK m (fa env) := by
  funext w S
  cases w <;> rfl
@[simp] theorem v_tm {m : TM} {o a : E} : (ev γ (.tm m o a)).e env S = ((ev γ o).e env S).bind (tmK m ((ev γ a).e env)) := by
  show ((ev γ o).e env S).bind (fTmK (tmV m) (ev γ a).e env) = _
  rw [fTmK_eq]
@[simp] theorem t_tm {m : TM} {o a : E} : (ev γ (.tm m o a)).t env S = ((ev γ (.tm m o a)).e env S).bind truK := id rfl
@[simp] theorem i_tm {m : TM} {o a : E} : (ev γ (.tm m o a)).i env S = ((ev γ (.tm m o a)).e env S).bind itK := id rfl
def ownCL (i : Nat) (env : Evn) (w : Va) (S : Store) : RS := ownCK i env w S
@[simp] theorem ownCL_e {i : Nat} {l : List Va} : ownCL i env (.lst l) S = .nx (env.set i (.own l)) S := id rfl
@[simp] theorem k_ownC {i : Nat} {e : E} : evK γ (.ownC i e) env S = ((ev γ e).e env S).toS env (ownCL i env) := id rfl
theorem p_strZ {i : Int} (h : i.natAbs < 18446744073709551616) : pr .str [.int i] = some (.str (numZ i)) := by
  have : i.natAbs.log2 < 1920 := by
    rcases Nat.eq_zero_or_pos i.natAbs with z | z
    · rw [z]
      decide
    · have h2 : i.natAbs < 2 ^ 64 := by
        show _ < 18446744073709551616
        omega
      have := (Nat.log2_lt (by omega)).mpr h2
      omega
  exact if_pos this
theorem p_str {i : Int} (h0 : 0 ≤ i) (h1 : i < 18446744073709551616) : pr .str [.int i] = some (.str (TL.numL i.toNat)) := by
  rw [p_strZ (by omega)]
  unfold numZ
  rw [if_pos h0]
@[simp] theorem p_ord {c : Nat} : pr .ord [.str [c]] = some (.int (c : Int)) := id rfl
end
/-! ### constant tuples looked into, padding, defs held by names, handlers, dicts -/
section
variable {γ : Ga} {env : Evn} {S : Store}
def tixL (l : List Va) (w : Va) (S : Store) : Res Va := lift (tixV l w) S
@[simp] theorem tixL_e {l : List Va} {w : Va} : tixL l w S = lift (tixV l w) S := id rfl
def tixY (k : Store → Res Va) (o : Option Va) (S : Store) : Res Va := match o with
  | some (.tup l) => (k S).bind (tixL l)
  | _ => .bad
@[simp] theorem tixY_e {k : Store → Res Va} {l : List Va} : tixY k (some (.tup l)) S = (k S).bind (tixL l) := id rfl
@[simp] theorem v_tix {y : String} {a : E} : (ev γ (.tix y a)).e env S = tixY ((ev γ a).e env) (γ.glo y) S := by
  show fTix (γ.glo y) (ev γ a).e env S = _
  cases γ.glo y with
  | none => rfl
  | some w => cases w <;> rfl
def padM (w w2 w3 : Va) (S : Store) : Res Va := lift (padV w w2 w3) S
@[simp] theorem padM_e {w w2 w3 : Va} : padM w w2 w3 S = lift (padV w w2 w3) S := id rfl
def padL (kb : Store → Res Va) (w w2 : Va) (S : Store) : Res Va := (kb S).bind (padM w w2)
@[simp] theorem padL_e {kb : Store → Res Va} {w w2 : Va} : padL kb w w2 S = (kb S).bind (padM w w2) := id rfl
def padK (ka kb : Store → Res Va) (w : Va) (S : Store) : Res Va := match w with
  | .str a => (ka S).bind (padL kb (.str a))
  | _ => .bad
@[simp] theorem padK_e {ka kb : Store → Res Va} {a : List Nat} : padK ka kb (.str a) S = (ka S).bind (padL kb (.str a)) := id rfl
@[simp] theorem v_rj {o a b : E} : (ev γ (.rj o a b)).e env S = ((ev γ o).e env S).bind (padK ((ev γ a).e env) ((ev γ b).e env)) := by
  show ((ev γ o).e env S).bind (fPadK (ev γ a).e (ev γ b).e env) = _
  congr 1
def callX (g : Option (List Va → Store → Res Va)) (kr : Store → Res (List Va)) (S : Store) : Res Va := match g with
  | some g => (kr S).bind g
  | none => .bad
@[simp] theorem callX_e {g : List Va → Store → Res Va} {kr : Store → Res (List Va)} : callX (some g) kr S = (kr S).bind g := id rfl
theorem v_callV {fs : List String} {i : Nat} {l : E} {nm : String} (h : env[i]? = some (.val (.fn nm))) (hf : fs.contains nm = true) : (ev γ (.callV fs i l)).e env S = callX (γ.fn nm) ((ev γ l).a env) S := by
  show fCallV γ.fn fs i (ev γ l).a env S = _
  unfold fCallV
  rw [h]
  show (if fs.contains nm = true then _ else _) = _
  rw [if_pos hf]
  cases γ.fn nm <;> rfl
@[simp] theorem k_tryN {t : String} {j : Nat} {b : Ks} : evK γ (.tryN t j b) env S = tryNR γ.sub t j (evK γ b env S) := id rfl
@[simp] theorem tryN_nx {sub : String → String → Option Bool} {t : String} {j : Nat} : tryNR sub t j (.nx env S) = .nx env S := id rfl
@[simp] theorem tryN_rt {sub : String → String → Option Bool} {t : String} {j : Nat} {w : Va} : tryNR sub t j (.rt w S) = .rt w S := id rfl
theorem tryN_ex {sub : String → String → Option Bool} {t c : String} {j : Nat} {n : Option Int} (h : sub c t = some true) : tryNR sub t j (.ex c n env S) = .nx (env.set j (.val .non)) S := by
  show (match sub c t with | some true => RS.nx (env.set j (.val .non)) S | some false => .ex c n env S | none => .bad) = _
  rw [h]
@[simp] theorem v_dnew : (ev γ .dnew).e env S = .ok (.ref S.length) (S ++ [.dic []]) := id rfl
def dgetL (w u : Va) (S : Store) : Res Va := lift (vDGet S w u) S
@[simp] theorem dgetL_e {w u : Va} : dgetL w u S = lift (vDGet S w u) S := id rfl
def dgetK (k : Store → Res Va) (w : Va) (S : Store) : Res Va := (k S).bind (dgetL w)
@[simp] theorem dgetK_e {k : Store → Res Va} {w : Va} : dgetK k w S = (k S).bind (dgetL w) := id rfl
@[simp] theorem v_dget {a b : E} : (ev γ (.dget a b)).e env S = ((ev γ a).e env S).bind (dgetK ((ev γ b).e env)) := id rfl
def dinL (n : Bool) (w u : Va) (S : Store) : Res Va := lift (vDIn n S w u) S
@[simp] theorem dinL_e {n : Bool} {w u : Va} : dinL n w u S = lift (vDIn n S w u) S := id rfl
def dinK (n : Bool) (k : Store → Res Va) (w : Va) (S : Store) : Res Va := (k S).bind (dinL n w)
@[simp] theorem dinK_e {n : Bool} {k : Store → Res Va} {w : Va} : dinK n k w S = (k S).bind (dinL n w) := id rfl
@[simp] theorem v_din {n : Bool} {a b : E} : (ev γ (.din n a b)).e env S = ((ev γ a).e env S).bind (dinK n ((ev γ b).e env)) := id rfl
def putDM (env : Evn) (y w u : Va) (S : Store) : RS := match putD S w u y with
  | some S4 => .nx env S4
  | none => .bad
theorem putDM_e {y w u : Va} {T : Store} (h : putD S w u y = some T) : putDM env y w u S = .nx env T := by
  unfold putDM
  rw [h]
def putDL (env : Evn) (kk : Store → Res Va) (y w : Va) (S : Store) : RS := (kk S).toS env (putDM env y w)
@[simp] theorem putDL_e {kk : Store → Res Va} {y w : Va} : putDL env kk y w S = (kk S).toS env (putDM env y w) := id rfl
def putDK (env : Evn) (ko kk : Store → Res Va) (y : Va) (S : Store) : RS := (ko S).toS env (putDL env kk y)
@[simp] theorem putDK_e {ko kk : Store → Res Va} {y : Va} : putDK env ko kk y S = (ko S).toS env (putDL env kk y) := id rfl
@[simp] theorem k_putD {o k e : E} : evK γ (.putD o k e) env S = ((ev γ e).e env S).toS env (putDK env ((ev γ o).e env) ((ev γ k).e env)) := id rfl
@[simp] theorem t_din' {n : Bool} {a b : E} : (ev γ (.din n a b)).t env S = ((ev γ (.din n a b)).e env S).bind truK := id rfl
end
/-! ### dicts that are walked -/
section
variable {γ : Ga} {env : Evn} {S : Store}
theorem k_lk {p : E} {k : Ks} {j : Nat} {S' : Store} {l : List (Ke × Va)} (hp : (ev γ p).e env S = .ok (.ref j) S') (hS : S[j]? = some (.dic l)) : evK γ (.lk p k) env S = (evK γ k env (S.set j (.dicF l))).open_ j := by
  show sLk (ev γ p).e (evK γ k) env S = _
  have : peek (ev γ p).e env S = some (j, l) := by
    unfold peek
    rw [hp]
    show (match S[j]? with | some (.dic l) => some (j, l) | _ => none) = _
    rw [hS]
  unfold sLk
  rw [this]
def keysK (w : Va) (S : Store) : Res (List Va) := lift ((dicK S w).map fun l => l.map fun p => keV p.1) S
theorem keysK_e {j : Nat} {l : List (Ke × Va)} (h : S[j]? = some (.dicF l)) : keysK (.ref j) S = .ok (l.map fun p => keV p.1) S := by
  unfold keysK dicK
  show lift (Option.map _ (match S[j]? with | some (.dicF l) => some l | _ => none)) S = _
  rw [h]
  rfl
def valsK (w : Va) (S : Store) : Res (List Va) := lift ((dicK S w).map fun l => l.map fun p => p.2) S
theorem valsK_e {j : Nat} {l : List (Ke × Va)} (h : S[j]? = some (.dicF l)) : valsK (.ref j) S = .ok (l.map fun p => p.2) S := by
  unfold valsK dicK
  show lift (Option.map _ (match S[j]? with | some (.dicF l) => some l | _ => none)) S = _
  rw [h]
  rfl
@[simp] theorem i_itD {a : E} : (ev γ (.itD a)).i env S = ((ev γ a).e env S).bind keysK := id rfl
@[simp] theorem i_itW {a : E} : (ev γ (.itW a)).i env S = ((ev γ a).e env S).bind valsK := id rfl
theorem open_nx {j : Nat} {l : List (Ke × Va)} (h : S[j]? = some (.dicF l)) : (RS.nx env S).open_ j = .nx env (S.set j (.dic l)) := by
  show (match opn j S with | some S' => RS.nx env S' | none => .bad) = _
  unfold opn
  rw [h]
theorem open_rt {j : Nat} {w : Va} {l : List (Ke × Va)} (h : S[j]? = some (.dicF l)) : (RS.rt w S).open_ j = .rt w (S.set j (.dic l)) := by
  show (match opn j S with | some S' => RS.rt w S' | none => .bad) = _
  unfold opn
  rw [h]
theorem dicR_d {j : Nat} {l : List (Ke × Va)} (h : S[j]? = some (.dic l)) : dicR S (.ref j) = some l := by
  show (match S[j]? with | some (.dic l) => some l | some (.dicF l) => some l | _ => none) = _
  rw [h]
theorem dicR_f {j : Nat} {l : List (Ke × Va)} (h : S[j]? = some (.dicF l)) : dicR S (.ref j) = some l := by
  show (match S[j]? with | some (.dic l) => some l | some (.dicF l) => some l | _ => none) = _
  rw [h]
theorem vDGet_e {w u v : Va} {l : List (Ke × Va)} {k : Ke} (h : dicR S w = some l) (hk : keOf u = some k) (hv : valL l k = some v) : vDGet S w u = some v := by
  unfold vDGet
  rw [h, hk]
  exact hv
theorem vDIn_e {n : Bool} {w u : Va} {l : List (Ke × Va)} {k : Ke} (h : dicR S w = some l) (hk : keOf u = some k) : vDIn n S u w = some (.bl (if n then !(valL l k).isSome else (valL l k).isSome)) := by
  unfold vDIn
  rw [h, hk]
theorem putD_e {j : Nat} {u y : Va} {l : List (Ke × Va)} {k : Ke} (h : S[j]? = some (.dic l)) (hk : keOf u = some k) (hz : l.length < sizeLine) : putD S (.ref j) u y = some (S.set j (.dic (putL l k y))) := by
  have e : dicOf S (.ref j) = some l := by
    show (match S[j]? with | some (.dic l) => some l | _ => none) = _
    rw [h]
  unfold putD
  rw [e, hk]
  exact if_pos hz
end
/-! ### sorts -/
theorem q_addL {a b : List Va} (h : a.length + b.length ≤ 16000000) : b2 .add (.lst a) (.lst b) = some (.lst (a ++ b)) := by
  show (iAdd (.lst a) (.lst b)).or ((lAdd (.lst a) (.lst b)).or _) = _
  have : lAdd (.lst a) (.lst b) = some (.lst (a ++ b)) := if_pos (Nat.le_trans h (by decide))
  rw [this]
  rfl
theorem intsOf_none {w : Va} {l : List Va} (h : ∀ i, w ≠ .int i) : intL (.lst (w :: l)) = none := by
  show intsOf (w :: l) = none
  cases w <;> first | rfl | exact absurd rfl (h _)
theorem p_sortI {ns : List Int} : pr .sorted [.lst (ns.map .int)] = some (.lst ((ns.mergeSort fun a b => decide (a ≤ b)).map .int)) := by
  show (vSortI (.lst (ns.map .int))).or _ = _
  unfold vSortI
  have : intL (.lst (ns.map Va.int)) = some ns := intsOf_map _
  rw [this]
  rfl
theorem pds_map {α : Type} (F : α → Va) (G : α → PyData) (h : ∀ x, pd (F x) = G x) : ∀ l : List α, pds (l.map F) = l.map G
  | [] => rfl
  | x :: l => by
    show pd (F x) :: pds (l.map F) = _
    rw [h, pds_map F G h l]
    rfl
theorem vLe_ints (xs ys : List Int) : vLe (.tup (xs.map .int)) (.tup (ys.map .int)) = decide (xs ≤ ys) := by
  show (!PySem.W.dataLt (.tuple (pds (ys.map .int))) (.tuple (pds (xs.map .int)))) = _
  rw [pds_map Va.int PyData.int (fun _ => rfl), pds_map Va.int PyData.int (fun _ => rfl), PySem.W.dataLt_tuple]
  show (!PySem.W.rowLt (ys.map .int) (xs.map .int)) = _
  rw [PySem.W.dataLt_ints]
  by_cases h : ys < xs
  · have h' : ¬ xs ≤ ys := fun r => List.not_lt.mpr r h
    simp [h, h']
  · have h' : xs ≤ ys := List.not_lt.mp h
    simp [h, h']
/-- rows of whole numbers, sorted -/
theorem p_sortR {α : Type} {l : List α} (F : α → List Int) (hne : ∀ x, F x ≠ []) (hl : l.length ≤ sizeLine) : pr .sorted [.lst (l.map fun x => .tup ((F x).map .int))] = some (.lst ((l.mergeSort fun a b => decide (F a ≤ F b)).map fun x => .tup ((F x).map .int))) := by
  show (vSortI _).or (vSD _) = _
  have hm : (l.mergeSort fun a b => decide (F a ≤ F b)).map (fun x => Va.tup ((F x).map .int)) = (l.map fun x => Va.tup ((F x).map .int)).mergeSort vLe := PySem.W.sort_maps (fun x => Va.tup ((F x).map .int)) fun a _ b _ => (vLe_ints _ _).symm
  have hD : vSD (.lst (l.map fun x => .tup ((F x).map .int))) = some (.lst ((l.map fun x => Va.tup ((F x).map .int)).mergeSort vLe)) := by
    unfold vSD
    refine if_pos ⟨?_, ?_, .inl ?_, by rw [List.length_map]; exact hl⟩
    · rw [List.all_eq_true]
      intro w hw
      obtain ⟨x, _, rfl⟩ := List.mem_map.mp hw
      simp
    · unfold alikeB
      rw [List.all_eq_true]
      intro w hw
      obtain ⟨x, _, rfl⟩ := List.mem_map.mp hw
      rw [List.all_eq_true]
      intro u hu
      obtain ⟨y, _, rfl⟩ := List.mem_map.mp hu
      show PySem.W.alike (.tuple (pds ((F x).map .int))) (.tuple (pds ((F y).map .int))) = true
      rw [pds_map Va.int PyData.int (fun _ => rfl), pds_map Va.int PyData.int (fun _ => rfl)]
      simpa [PySem.W.alike] using PySem.W.alike_ints (F x) (F y)
    · rw [List.all_eq_true]
      intro w hw
      obtain ⟨x, _, rfl⟩ := List.mem_map.mp hw
      have := hne x
      cases q : F x with
      | nil => exact absurd q this
      | cons a r => rfl
  rw [hD, ← hm]
  cases l with
  | nil =>
    have h0 : vSortI (.lst []) = some (.lst []) := by
      show some (Va.lst ((([] : List Int).mergeSort fun a b => decide (a ≤ b)).map .int)) = _
      rw [List.mergeSort_nil]
      rfl
    rw [List.map_nil, h0, List.mergeSort_nil]
    rfl
  | cons x l =>
    have : vSortI (.lst ((x :: l).map fun x => .tup ((F x).map .int))) = none := by
      unfold vSortI
      rw [List.map_cons, intsOf_none fun i e => by cases e]
      rfl
    rw [this]
    rfl
/-- sorted by a key -/
theorem vSK_map {α : Type} {ks : KeyS} {l : List α} (F : α → Va) (κ : α → Int × Int) (hk : ∀ x ∈ l, ks.of (F x) = some (κ x)) (hl : l.length ≤ sizeLine) : vSK ks (.lst (l.map F)) = some (.lst ((l.mergeSort fun a b => ks.le (κ a) (κ b)).map F)) := by
  have hg : ∀ x ∈ l, ks.get (F x) = κ x := fun x hx => by
    unfold KeyS.get
    rw [hk x hx]
    rfl
  have hm : (l.mergeSort fun a b => ks.le (κ a) (κ b)).map F = (l.map F).mergeSort fun x y => ks.le (ks.get x) (ks.get y) := PySem.W.sort_maps F fun a ha b hb => by rw [hg a ha, hg b hb]
  rw [hm]
  unfold vSK
  refine if_pos ⟨by rw [List.length_map]; exact hl, ?_⟩
  rw [List.all_eq_true]
  intro w hw
  obtain ⟨x, hx, rfl⟩ := List.mem_map.mp hw
  rw [hk x hx]
  rfl
theorem ms_perm {α : Type} (l : List α) (le : α → α → Bool) : (l.mergeSort le).Perm l := List.mergeSort_perm l le
theorem ms_sorted {α : Type} {le : α → α → Bool} (tr : ∀ a b c, le a b = true → le b c = true → le a c = true) (tot : ∀ a b, (le a b || le b a) = true) (l : List α) : (l.mergeSort le).Pairwise fun a b => le a b = true := List.pairwise_mergeSort tr tot l
/-- the one sorted list -/
theorem ms_eq {α : Type} {le : α → α → Bool} (tr : ∀ a b c, le a b = true → le b c = true → le a c = true) (tot : ∀ a b, (le a b || le b a) = true) {l m : List α} (anti : ∀ a ∈ m, ∀ b ∈ m, le a b = true → le b a = true → a = b) (hp : l.Perm m) (hs : m.Pairwise fun a b => le a b = true) : l.mergeSort le = m := by
  have p := (ms_perm l le).trans hp
  refine p.eq_of_pairwise (fun a b ha hb h h' => ?_) (ms_sorted tr tot l) hs
  exact anti a (p.mem_iff.mp ha) b hb h h'
theorem ints_le_tr (a b c : List Int) : decide (a ≤ b) = true → decide (b ≤ c) = true → decide (a ≤ c) = true := fun h1 h2 => decide_eq_true (List.le_trans (of_decide_eq_true h1) (of_decide_eq_true h2))
theorem ints_le_tot (a b : List Int) : (decide (a ≤ b) || decide (b ≤ a)) = true := by
  rcases List.le_total a b with h | h
  · simp [h]
  · simp [h]
/-! ### lists of the store, displays -/
section
variable {γ : Ga} {env : Evn} {S : Store} {l : List Va} {w : Va} {j : Nat}
@[simp] theorem olcK_e : olcK (.lst l) S = .ok (.ref S.length) (S ++ [.lst l]) := id rfl
@[simp] theorem v_olc {tg : Tg} {vs : List Nat} {it t e : E} : (ev γ (.olc tg vs it t e)).e env S = ((ev γ (.lc tg vs it t e)).e env S).bind olcK := id rfl
theorem lstOf_e (h : S[j]? = some (.lst l)) : lstOf S (.ref j) = some l := by
  show (match S[j]? with | some (.lst l) => some l | _ => none) = _
  rw [h]
def lenSK (w : Va) (S : Store) : Res Va := lift ((lstOf S w).map fun l => .int l.length) S
theorem lenSK_e (h : S[j]? = some (.lst l)) : lenSK (.ref j) S = .ok (.int l.length) S := by
  unfold lenSK
  rw [lstOf_e h]
  rfl
@[simp] theorem v_lenS {a : E} : (ev γ (.lenS a)).e env S = ((ev γ a).e env S).bind lenSK := id rfl
def tSK (w : Va) (S : Store) : Res Bool := lift ((lstOf S w).map fun l => !l.isEmpty) S
theorem tSK_e (h : S[j]? = some (.lst l)) : tSK (.ref j) S = .ok (!l.isEmpty) S := by
  unfold tSK
  rw [lstOf_e h]
  rfl
@[simp] theorem tr_tS {a : E} : (ev γ (.tS a)).t env S = ((ev γ a).e env S).bind tSK := id rfl
def listSK (w : Va) (S : Store) : Res Va := lift ((lstOf S w).map .lst) S
theorem listSK_e (h : S[j]? = some (.lst l)) : listSK (.ref j) S = .ok (.lst l) S := by
  unfold listSK
  rw [lstOf_e h]
  rfl
@[simp] theorem v_listS {a : E} : (ev γ (.listS a)).e env S = ((ev γ a).e env S).bind listSK := id rfl
theorem vIxS_e {i : Int} (h : S[j]? = some (.lst l)) : vIxS S (.ref j) (.int i) = atI l i := by
  unfold vIxS
  simp only [lstOf_e h]
@[simp] theorem ownL1_t {i : Nat} : ownL1 i env (.tup l) S = .nx (env.set i (.own l)) S := id rfl
@[simp] theorem ownL1_l {i : Nat} : ownL1 i env (.lst l) S = .nx (env.set i (.own l)) S := id rfl
@[simp] theorem k_ownK {i : Nat} {e : E} : evK γ (.ownK i e) env S = ((ev γ e).e env S).toS env (ownL1 i env) := id rfl
def setOM (i : Nat) (env : Evn) (l : List Va) (w : Va) (o : Option Nat) (S : Store) : RS := match o with
  | some j => .nx (env.set i (.own (l.set j w))) S
  | none => .bad
@[simp] theorem setOM_e {i : Nat} : setOM i env l w (some j) S = .nx (env.set i (.own (l.set j w))) S := id rfl
def setOL (i : Nat) (env : Evn) (l : List Va) (w u : Va) (S : Store) : RS := match u with
  | .int k => setOM i env l w (ixN l.length k) S
  | _ => .bad
@[simp] theorem setOL_e {i : Nat} {k : Int} : setOL i env l w (.int k) S = setOM i env l w (ixN l.length k) S := id rfl
def setOJ (i : Nat) (env : Evn) (kk : Store → Res Va) (w : Va) (o : Option (List Va)) (S : Store) : RS := match o with
  | some l => (kk S).toS env (setOL i env l w)
  | none => .bad
@[simp] theorem setOJ_e {i : Nat} {kk : Store → Res Va} : setOJ i env kk w (some l) S = (kk S).toS env (setOL i env l w) := id rfl
def setOK (i : Nat) (env : Evn) (kk : Store → Res Va) (w : Va) (S : Store) : RS := setOJ i env kk w (ownAt env i) S
@[simp] theorem setOK_e {i : Nat} {kk : Store → Res Va} : setOK i env kk w S = setOJ i env kk w (ownAt env i) S := id rfl
@[simp] theorem k_setO {i : Nat} {k e : E} : evK γ (.setO i k e) env S = ((ev γ e).e env S).toS env (setOK i env ((ev γ k).e env)) := by
  have h : ∀ (w : Va) (S1 : Store), (match ownAt env i with
    | some l => ((ev γ k).e env S1).toS env fun u S2 => (match u with
      | .int k => (match ixN l.length k with
        | some j => .nx (env.set i (.own (l.set j w))) S2
        | none => .bad)
      | _ => .bad)
    | none => (.bad : RS)) = setOK i env ((ev γ k).e env) w S1 := fun w S1 => by
    unfold setOK setOJ
    cases ownAt env i with
    | none => rfl
    | some l =>
      have h2 : (fun (u : Va) (S2 : Store) => (match u with
        | .int k => (match ixN l.length k with
          | some j => RS.nx (env.set i (.own (l.set j w))) S2
          | none => .bad)
        | _ => .bad)) = setOL i env l w := by
        funext u S2
        cases u <;> rfl
      exact congrArg (Res.toS ((ev γ k).e env S1) env) h2
  exact congrArg (Res.toS ((ev γ e).e env S) env) (funext fun w => funext fun S1 => h w S1)
theorem ixN_pos {n : Nat} {k : Int} (h0 : 0 ≤ k) (h1 : k < n) : ixN n k = some k.toNat := by
  unfold ixN
  rw [if_pos h0, if_pos (by omega)] <;> rfl
theorem k_frzS {i : Nat} {c : Ks} (hi : env[i]? = some (.val (.ref j))) (hS : S[j]? = some (.lst l)) : evK γ (.frzS i c) env S = evK γ c (env.set i (.val (.lst l))) (S.set j .dead) := by
  show evK γ c (frzS i env S).1 (frzS i env S).2 = _
  have e : frzS i env S = (env.set i (.val (.lst l)), S.set j .dead) := by
    unfold frzS
    rw [hi]
    show (match S[j]? with | some (.lst l) => (env.set i (.val (.lst l)), S.set j .dead) | _ => (env, S)) = _
    rw [hS]
  rw [e]
theorem setL_e {i : Int} {y : Va} (h : S[j]? = some (.lst l)) (h0 : 0 ≤ i) (h1 : i < l.length) : setL S (.ref j) (.int i) y = some (S.set j (.lst (l.set i.toNat y))) := by
  unfold setL
  simp only [lstOf_e h, ixN_pos h0 h1]
def isTsK (ts : List String) (w : Va) (S : Store) : Res Va := lift (vIsTs ts w) S
@[simp] theorem isTsK_e {ts : List String} : isTsK ts w S = lift (vIsTs ts w) S := id rfl
theorem v_isTs {ts : List String} {a : E} (h : (ts.all fun t => decide (γ.glo t = some (.ty t))) = true) : (ev γ (.isTs ts a)).e env S = ((ev γ a).e env S).bind (isTsK ts) := by
  show fIsG _ ts (ev γ a).e env S = _
  unfold fIsG
  rw [if_pos h]
  rfl
@[simp] theorem t_isTs {ts : List String} {a : E} : (ev γ (.isTs ts a)).t env S = ((ev γ (.isTs ts a)).e env S).bind truK := id rfl
@[simp] theorem t_lenS {a : E} : (ev γ (.lenS a)).t env S = ((ev γ (.lenS a)).e env S).bind truK := id rfl
end
/-! ### looked up, counted -/
section
variable {γ : Ga} {env : Evn} {S : Store} {l : List Va}
def lixM (l : List Va) (u : Va) (S : Store) : Res Va := lift (lixV (.lst l) u) S
@[simp] theorem lixM_e {u : Va} : lixM l u S = lift (lixV (.lst l) u) S := id rfl
def lixW (k : Store → Res Va) (w : Va) (S : Store) : Res Va := match w with
  | .lst l => (k S).bind (lixM l)
  | _ => .bad
@[simp] theorem lixW_e {k : Store → Res Va} : lixW k (.lst l) S = (k S).bind (lixM l) := id rfl
@[simp] theorem v_lix {o a : E} : (ev γ (.lix o a)).e env S = ((ev γ o).e env S).bind (lixW ((ev γ a).e env)) := by
  show ((ev γ o).e env S).bind (lixK (ev γ a).e env) = _
  have h : lixK (ev γ a).e env = lixW ((ev γ a).e env) := by
    funext w S
    cases w <;> rfl
  rw [h]
def lcntM (l : List Va) (u : Va) (S : Store) : Res Va := lift (lcntV (.lst l) u) S
@[simp] theorem lcntM_e {u : Va} : lcntM l u S = lift (lcntV (.lst l) u) S := id rfl
def lcntW (k : Store → Res Va) (w : Va) (S : Store) : Res Va := match w with
  | .lst l => (k S).bind (lcntM l)
  | _ => .bad
@[simp] theorem lcntW_e {k : Store → Res Va} : lcntW k (.lst l) S = (k S).bind (lcntM l) := id rfl
@[simp] theorem v_lcnt {o a : E} : (ev γ (.lcnt o a)).e env S = ((ev γ o).e env S).bind (lcntW ((ev γ a).e env)) := by
  show ((ev γ o).e env S).bind (lcntK (ev γ a).e env) = _
  have h : lcntK (ev γ a).e env = lcntW ((ev γ a).e env) := by
    funext w S
    cases w <;> rfl
  rw [h]
end
end Mi
end
section
namespace Wk50
open PySem PySem.Spec PyProof.Rows L2 Mi
def top (i : Nat) : Stmt := PySem.Challenge.pw_wakewell_k50_whole_alarms.main.body.getD i (.Pass ⟨0, 0, 0, 0⟩)
def mth (c : Stmt) (i : Nat) : Stmt := match c with
  | .ClassDef _ _ _ b _ _ _ _ _ _ _ => b.getD i (.Pass ⟨0, 0, 0, 0⟩)
  | _ => c
def k_is_leap : Ks := (.seq (.ret (.or (.and (.cmp .eq (.bin .mod (.var 0) (.con (.int (4)))) (.con (.int (0)))) (.cmp .ne (.bin .mod (.var 0) (.con (.int (100)))) (.con (.int (0))))) (.cmp .eq (.bin .mod (.var 0) (.con (.int (400)))) (.con (.int (0)))))) .skip)
def d_is_leap : Dx := ⟨"is_leap", none, top 11, ["year"], 1, k_is_leap, none⟩
def k_month_length : Ks := (.seq (.ife (.or (.not (.chain .le .le (.glo "FIRST_YEAR_days") (.var 0) (.glo "LAST_YEAR_days"))) (.not (.chain .le .le (.con (.int (1))) (.var 1) (.con (.int (12)))))) (.seq (.raise "BadDate") .skip) .skip) (.seq (.ret (.bin .add (.ix (.glo "LENGTHS") (.bin .sub (.var 1) (.con (.int (1))))) (.prim .int (.acons (.and (.cmp .eq (.var 1) (.con (.int (2)))) (.call "is_leap" (.acons (.var 0) .anil))) .anil)))) .skip))
def d_month_length : Dx := ⟨"month_length", none, top 12, ["year", "month"], 2, k_month_length, none⟩
def k_before_year : Ks := (.seq (.asg 1 (.bin .sub (.var 0) (.con (.int (1))))) (.seq (.ret (.bin .add (.bin .sub (.bin .add (.bin .mul (.con (.int (365))) (.var 1)) (.bin .div (.var 1) (.con (.int (4))))) (.bin .div (.var 1) (.con (.int (100))))) (.bin .div (.var 1) (.con (.int (400)))))) .skip))
def d_before_year : Dx := ⟨"before_year", none, top 13, ["year", "past"], 1, k_before_year, none⟩
def k_day_of : Ks := (.seq (.ife (.not (.chain .le .le (.con (.int (1))) (.var 2) (.call "month_length" (.acons (.var 0) (.acons (.var 1) .anil))))) (.seq (.raise "BadDate") .skip) .skip) (.seq (.asg 3 (.bin .sub (.bin .sub (.bin .add (.call "before_year" (.acons (.var 0) .anil)) (.var 2)) (.con (.int (1)))) (.glo "ZERO"))) (.seq (.for_ (.one 4) (.itR (.acons (.con (.int (1))) (.acons (.var 1) .anil))) (.seq (.asg 3 (.bin .add (.var 3) (.call "month_length" (.acons (.var 0) (.acons (.var 4) .anil))))) .skip)) (.seq (.ret (.var 3)) .skip))))
def d_day_of : Dx := ⟨"day_of", none, top 14, ["year", "month", "day", "found", "one"], 3, k_day_of, none⟩
def k_year_of : Ks := (.seq (.asg 1 (.bin .add (.var 0) (.glo "ZERO"))) (.seq (.asg 2 (.bin .add (.bin .div (.var 1) (.con (.int (366)))) (.con (.int (1))))) (.seq (.whl (.cmp .le (.call "before_year" (.acons (.bin .add (.var 2) (.con (.int (1)))) .anil)) (.var 1)) (.seq (.asg 2 (.bin .add (.var 2) (.con (.int (1))))) .skip)) (.seq (.ret (.var 2)) .skip))))
def d_year_of : Dx := ⟨"year_of", none, top 17, ["day", "past", "year"], 1, k_year_of, none⟩
def k_date_of : Ks := (.seq (.ife (.not (.chain .le .le (.glo "FIRST_DAY") (.var 0) (.glo "LAST_DAY"))) (.seq (.raise "BadDate") .skip) .skip) (.seq (.asg 1 (.call "year_of" (.acons (.var 0) .anil))) (.seq (.asg 2 (.bin .sub (.bin .add (.var 0) (.glo "ZERO")) (.call "before_year" (.acons (.var 1) .anil)))) (.seq (.asg 3 (.con (.int (1)))) (.seq (.whl (.cmp .ge (.var 2) (.call "month_length" (.acons (.var 1) (.acons (.var 3) .anil)))) (.seq (.asg 2 (.bin .sub (.var 2) (.call "month_length" (.acons (.var 1) (.acons (.var 3) .anil))))) (.seq (.asg 3 (.bin .add (.var 3) (.con (.int (1))))) .skip))) (.seq (.ret (.tup (.acons (.var 1) (.acons (.var 3) (.acons (.bin .add (.var 2) (.con (.int (1)))) .anil))))) .skip))))))
def d_date_of : Dx := ⟨"date_of", none, top 18, ["day", "year", "left", "month"], 1, k_date_of, none⟩
def k_Words_init : Ks := (.seq (.setF (.var 0) "words" (.tm .split (.var 1) (.con ((sV " "))))) (.seq (.setF (.var 0) "at" (.con (.int (0)))) .skip))
def d_Words_init : Dx := ⟨"Words", some "__init__", mth (top 27) 0, ["self", "text"], 2, k_Words_init, none⟩
def k_Words_refuse : Ks := (.seq (.raiseI "BadRule" (.bin .add (.fld (.var 0) "at") (.con (.int (1))))) .skip)
def d_Words_refuse : Dx := ⟨"Words", some "refuse", mth (top 27) 1, ["self"], 1, k_Words_refuse, none⟩
def k_Words_sees : Ks := (.seq (.ife (.cmp .eq (.fld (.var 0) "at") (.prim .len (.acons (.fld (.var 0) "words") .anil))) (.seq (.ret (.con ((sV "")))) .skip) .skip) (.seq (.ret (.ix (.fld (.var 0) "words") (.fld (.var 0) "at"))) .skip))
def d_Words_sees : Dx := ⟨"Words", some "sees", mth (top 27) 2, ["self"], 1, k_Words_sees, none⟩
def k_Words_next_word : Ks := (.seq (.asg 1 (.meth "Words" "sees" (.var 0) .anil)) (.seq (.setF (.var 0) "at" (.bin .add (.fld (.var 0) "at") (.con (.int (1))))) (.seq (.ret (.var 1)) .skip)))
def d_Words_next_word : Dx := ⟨"Words", some "next_word", mth (top 27) 3, ["self", "found"], 1, k_Words_next_word, none⟩
def k_Words_wants : Ks := (.seq (.ife (.cmp .ne (.meth "Words" "sees" (.var 0) .anil) (.var 1)) (.seq (.expr (.meth "Words" "refuse" (.var 0) .anil)) .skip) .skip) (.seq (.setF (.var 0) "at" (.bin .add (.fld (.var 0) "at") (.con (.int (1))))) .skip))
def d_Words_wants : Dx := ⟨"Words", some "wants", mth (top 27) 4, ["self", "word"], 2, k_Words_wants, none⟩
def k_Words_number : Ks := (.seq (.asg 3 (.meth "Words" "sees" (.var 0) .anil)) (.seq (.ife (.or (.not (.call "is_figures" (.acons (.var 3) .anil))) (.or (.cmp .eq (.ix (.var 3) (.con (.int (0)))) (.con ((sV "0")))) (.not (.chain .le .le (.var 1) (.prim .int (.acons (.var 3) .anil)) (.var 2))))) (.seq (.expr (.meth "Words" "refuse" (.var 0) .anil)) .skip) .skip) (.seq (.setF (.var 0) "at" (.bin .add (.fld (.var 0) "at") (.con (.int (1))))) (.seq (.ret (.prim .int (.acons (.var 3) .anil))) .skip))))
def d_Words_number : Dx := ⟨"Words", some "number", mth (top 27) 5, ["self", "low", "high", "word"], 3, k_Words_number, none⟩
def k_is_figures : Ks := (.seq (.ret (.and (.chain .le .le (.con (.int (1))) (.prim .len (.acons (.var 0) .anil)) (.con (.int (5)))) (.prim .all (.acons (.lc (.one 1) [1] (.var 0) .yes (.cmp .in_ (.var 1) (.glo "FIGURES"))) .anil)))) .skip)
def d_is_figures : Dx := ⟨"is_figures", none, top 28, ["word", "sign"], 1, k_is_figures, none⟩
def k_time_of : Ks := (.seq (.ife (.or (.cmp .ne (.prim .len (.acons (.var 0) .anil)) (.con (.int (5)))) (.or (.cmp .ne (.ix (.var 0) (.con (.int (2)))) (.con ((sV ":")))) (.or (.not (.call "is_figures" (.acons (.sl (.var 0) .anil (.con (.int (2)))) .anil))) (.not (.call "is_figures" (.acons (.sl (.var 0) (.con (.int (3))) .anil) .anil)))))) (.seq (.ret (.con (.non))) .skip) .skip) (.seq (.ife (.or (.cmp .gt (.prim .int (.acons (.sl (.var 0) .anil (.con (.int (2)))) .anil)) (.con (.int (23)))) (.cmp .gt (.prim .int (.acons (.sl (.var 0) (.con (.int (3))) .anil) .anil)) (.con (.int (59))))) (.seq (.ret (.con (.non))) .skip) .skip) (.seq (.ret (.bin .add (.bin .mul (.con (.int (60))) (.prim .int (.acons (.sl (.var 0) .anil (.con (.int (2)))) .anil))) (.prim .int (.acons (.sl (.var 0) (.con (.int (3))) .anil) .anil)))) .skip)))
def d_time_of : Dx := ⟨"time_of", none, top 29, ["word"], 1, k_time_of, none⟩
def k_date_in : Ks := (.seq (.ife (.or (.cmp .ne (.prim .len (.acons (.var 0) .anil)) (.con (.int (10)))) (.or (.cmp .ne (.ix (.var 0) (.con (.int (4)))) (.con ((sV "-")))) (.cmp .ne (.ix (.var 0) (.con (.int (7)))) (.con ((sV "-")))))) (.seq (.ret (.con (.non))) .skip) .skip) (.seq (.asg 1 (.lst (.acons (.sl (.var 0) .anil (.con (.int (4)))) (.acons (.sl (.var 0) (.con (.int (5))) (.con (.int (7)))) (.acons (.sl (.var 0) (.con (.int (8))) .anil) .anil))))) (.seq (.ife (.not (.prim .all (.acons (.lc (.one 3) [3] (.var 1) .yes (.call "is_figures" (.acons (.var 3) .anil))) .anil))) (.seq (.ret (.con (.non))) .skip) .skip) (.seq (.asg 2 (.con (.non))) (.seq (.tryN "BadDate" 2 (.seq (.asg 2 (.call "day_of" (.acons (.prim .int (.acons (.ix (.var 1) (.con (.int (0)))) .anil)) (.acons (.prim .int (.acons (.ix (.var 1) (.con (.int (1)))) .anil)) (.acons (.prim .int (.acons (.ix (.var 1) (.con (.int (2)))) .anil)) .anil))))) .skip)) (.seq (.ret (.var 2)) .skip))))))
def d_date_in : Dx := ⟨"date_in", none, top 30, ["word", "parts", "found", "part"], 1, k_date_in, none⟩
def k_month_day_in : Ks := (.seq (.ife (.or (.cmp .ne (.prim .len (.acons (.var 0) .anil)) (.con (.int (5)))) (.cmp .is (.call "date_in" (.acons (.bin .add (.con ((sV "2000-"))) (.var 0)) .anil)) (.con (.non)))) (.seq (.ret (.con (.non))) .skip) .skip) (.seq (.ret (.tup (.acons (.prim .int (.acons (.sl (.var 0) .anil (.con (.int (2)))) .anil)) (.acons (.prim .int (.acons (.sl (.var 0) (.con (.int (3))) .anil) .anil)) .anil)))) .skip))
def d_month_day_in : Dx := ⟨"month_day_in", none, top 31, ["word"], 1, k_month_day_in, none⟩
def k_read_some : Ks := (.seq (.ownL 3 .anil) (.seq (.asg 4 (.callV ["date_in", "month_day_in", "month_part", "time_of", "weekday_in"] 1 (.acons (.meth "Words" "sees" (.var 0) .anil) .anil))) (.seq (.ife (.cmp .is (.var 4) (.con (.non))) (.seq (.expr (.meth "Words" "refuse" (.var 0) .anil)) .skip) .skip) (.seq (.whl (.cmp .isnot (.var 4) (.con (.non))) (.seq (.ife (.or (.and (.oT 3) (.cmp .le (.var 4) (.oIx 3 (.neg (.con (.int (1))))))) (.cmp .eq (.oLen 3) (.var 2))) (.seq (.expr (.meth "Words" "refuse" (.var 0) .anil)) .skip) .skip) (.seq (.app 3 (.var 4)) (.seq (.setF (.var 0) "at" (.bin .add (.fld (.var 0) "at") (.con (.int (1))))) (.seq (.asg 4 (.callV ["date_in", "month_day_in", "month_part", "time_of", "weekday_in"] 1 (.acons (.meth "Words" "sees" (.var 0) .anil) .anil))) .skip))))) (.seq (.frz 3 (.ret (.prim .tuple (.acons (.var 3) .anil)))) .skip)))))
def d_read_some : Dx := ⟨"read_some", none, top 32, ["words", "one", "most", "found", "part"], 3, k_read_some, none⟩
def k_weekday_in : Ks := (.seq (.ife (.cmp .in_ (.var 0) (.glo "WEEKDAYS")) (.seq (.ret (.tix "WEEKDAYS" (.var 0))) .skip) .skip) (.seq (.ret (.con (.non))) .skip))
def d_weekday_in : Dx := ⟨"weekday_in", none, top 33, ["word"], 1, k_weekday_in, none⟩
def k_month_part : Ks := (.seq (.ife (.or (.not (.call "is_figures" (.acons (.var 0) .anil))) (.or (.cmp .eq (.ix (.var 0) (.con (.int (0)))) (.con ((sV "0")))) (.not (.chain .le .le (.con (.int (1))) (.prim .int (.acons (.var 0) .anil)) (.con (.int (31))))))) (.seq (.ret (.con (.non))) .skip) .skip) (.seq (.ret (.prim .int (.acons (.var 0) .anil))) .skip))
def d_month_part : Dx := ⟨"month_part", none, top 34, ["word"], 1, k_month_part, none⟩
def k_read_month : Ks := (.seq (.ife (.cmp .notin (.meth "Words" "sees" (.var 0) .anil) (.glo "NTHS")) (.seq (.ret (.call "read_some" (.acons (.var 0) (.acons (.glo "month_part") (.acons (.con (.int (31))) .anil))))) .skip) .skip) (.seq (.asg 1 (.bin .add (.tix "NTHS" (.meth "Words" "next_word" (.var 0) .anil)) (.con (.int (1))))) (.seq (.asg 2 (.call "weekday_in" (.acons (.meth "Words" "sees" (.var 0) .anil) .anil))) (.seq (.ife (.cmp .isnot (.var 2) (.con (.non))) (.seq (.expr (.meth "Words" "next_word" (.var 0) .anil)) (.seq (.ret (.tup (.acons (.var 1) (.acons (.var 2) (.acons (.con (.int (0))) .anil))))) .skip)) .skip) (.seq (.ife (.cmp .lt (.var 1) (.con (.int (5)))) (.seq (.expr (.meth "Words" "refuse" (.var 0) .anil)) .skip) .skip) (.seq (.ret (.tup .anil)) .skip))))))
def d_read_month : Dx := ⟨"read_month", none, top 35, ["words", "nth", "day"], 1, k_read_month, none⟩
def k_read_kind_words : Ks := (.seq (.asg 1 (.meth "Words" "sees" (.var 0) .anil)) (.seq (.ife (.cmp .in_ (.var 1) (.glo "PLAIN")) (.seq (.expr (.meth "Words" "next_word" (.var 0) .anil)) (.seq (.ret (.tup (.acons (.ix (.glo "UNITS") (.tix "PLAIN" (.var 1))) (.acons (.con (.int (1))) .anil)))) .skip)) .skip) (.seq (.expr (.meth "Words" "wants" (.var 0) (.acons (.con ((sV "every"))) .anil))) (.seq (.asg 2 (.meth "Words" "number" (.var 0) (.acons (.con (.int (2))) (.acons (.glo "MOST_STEP") .anil)))) (.seq (.ife (.cmp .notin (.meth "Words" "sees" (.var 0) .anil) (.glo "UNITS")) (.seq (.expr (.meth "Words" "refuse" (.var 0) .anil)) .skip) .skip) (.seq (.ret (.tup (.acons (.meth "Words" "next_word" (.var 0) .anil) (.acons (.var 2) .anil)))) .skip))))))
def d_read_kind_words : Dx := ⟨"read_kind_words", none, top 36, ["words", "word", "many"], 1, k_read_kind_words, some "read_kind"⟩
def k_read_on : Ks := (.seq (.ife (.cmp .eq (.var 1) (.con ((sV "days")))) (.seq (.ret (.tup .anil)) .skip) .skip) (.seq (.expr (.meth "Words" "wants" (.var 0) (.acons (.con ((sV "on"))) .anil))) (.seq (.ife (.cmp .eq (.var 1) (.con ((sV "weeks")))) (.seq (.ret (.call "read_some" (.acons (.var 0) (.acons (.glo "weekday_in") (.acons (.con (.int (7))) .anil))))) .skip) .skip) (.seq (.ife (.cmp .eq (.var 1) (.con ((sV "months")))) (.seq (.ret (.call "read_month" (.acons (.var 0) .anil))) .skip) .skip) (.seq (.ret (.call "read_some" (.acons (.var 0) (.acons (.glo "month_day_in") (.acons (.con (.int (12))) .anil))))) .skip)))))
def d_read_on : Dx := ⟨"read_on", none, top 38, ["words", "unit"], 2, k_read_on, none⟩
def k_read_date : Ks := (.seq (.asg 1 (.call "date_in" (.acons (.meth "Words" "sees" (.var 0) .anil) .anil))) (.seq (.ife (.cmp .is (.var 1) (.con (.non))) (.seq (.expr (.meth "Words" "refuse" (.var 0) .anil)) .skip) .skip) (.seq (.expr (.meth "Words" "next_word" (.var 0) .anil)) (.seq (.ret (.var 1)) .skip))))
def d_read_date : Dx := ⟨"read_date", none, top 39, ["words", "found"], 1, k_read_date, none⟩
def k_read : Ks := (.seq (.ret (.call "read_rule" (.acons (.new "Words" (.acons (.var 0) .anil)) .anil))) .skip)
def d_read : Dx := ⟨"read", none, top 40, ["text"], 1, k_read, none⟩
def k_read_rule_t12 : Ks := .skip
def k_read_rule_t11 : Ks := .seq (.ret (.tup (.acons (.var 6) (.acons (.var 7) (.acons (.var 1) (.acons (.var 2) (.acons (.var 3) (.acons (.var 4) (.acons (.var 5) .anil))))))))) k_read_rule_t12
def k_read_rule_t10 : Ks := .seq (.ife (.cmp .lt (.fld (.var 0) "at") (.prim .len (.acons (.fld (.var 0) "words") .anil))) (.seq (.expr (.meth "Words" "refuse" (.var 0) .anil)) .skip) .skip) k_read_rule_t11
def k_read_rule_t9 : Ks := .seq (.ife (.cmp .eq (.meth "Words" "sees" (.var 0) .anil) (.con ((sV "but")))) (.seq (.expr (.meth "Words" "next_word" (.var 0) .anil)) (.seq (.asg 5 (.call "read_some" (.acons (.var 0) (.acons (.glo "date_in") (.acons (.con (.int (31))) .anil))))) .skip)) .skip) k_read_rule_t10
def k_read_rule_t8 : Ks := .seq (.asg 5 (.tup .anil)) k_read_rule_t9
def k_read_rule_t7 : Ks := .seq (.ife (.cmp .eq (.meth "Words" "sees" (.var 0) .anil) (.con ((sV "until")))) (.seq (.expr (.meth "Words" "next_word" (.var 0) .anil)) (.seq (.ife (.and (.cmp .isnot (.call "date_in" (.acons (.meth "Words" "sees" (.var 0) .anil) .anil)) (.con (.non))) (.cmp .lt (.call "date_in" (.acons (.meth "Words" "sees" (.var 0) .anil) .anil)) (.var 3))) (.seq (.expr (.meth "Words" "refuse" (.var 0) .anil)) .skip) .skip) (.seq (.asg 4 (.call "read_date" (.acons (.var 0) .anil))) .skip))) .skip) k_read_rule_t8
def k_read_rule_t6 : Ks := .seq (.asg 4 (.con (.non))) k_read_rule_t7
def k_read_rule_t5 : Ks := .seq (.asg 3 (.call "read_date" (.acons (.var 0) .anil))) k_read_rule_t6
def k_read_rule_t4 : Ks := .seq (.expr (.meth "Words" "wants" (.var 0) (.acons (.con ((sV "from"))) .anil))) k_read_rule_t5
def k_read_rule_t3 : Ks := .seq (.asg 2 (.call "read_some" (.acons (.var 0) (.acons (.glo "time_of") (.acons (.glo "MOST_TIMES") .anil))))) k_read_rule_t4
def k_read_rule_t2 : Ks := .seq (.expr (.meth "Words" "wants" (.var 0) (.acons (.con ((sV "at"))) .anil))) k_read_rule_t3
def k_read_rule_t1 : Ks := .seq (.asg 1 (.call "read_on" (.acons (.var 0) (.acons (.var 6) .anil)))) k_read_rule_t2
def k_read_rule_t0 : Ks := .seq (.asgT [6, 7] (.call "read_kind_words" (.acons (.var 0) .anil))) k_read_rule_t1
def k_read_rule : Ks := k_read_rule_t0
def d_read_rule : Dx := ⟨"read_rule", none, top 41, ["words", "on", "times", "first", "last", "but", "unit", "step"], 1, k_read_rule, none⟩
def k_two : Ks := (.seq (.ret (.rj (.prim .str (.acons (.var 0) .anil)) (.con (.int (2))) (.con ((sV "0"))))) .skip)
def d_two : Dx := ⟨"two", none, top 42, ["number"], 1, k_two, none⟩
def k_time_text : Ks := (.seq (.ret (.bin .add (.bin .add (.call "two" (.acons (.bin .div (.var 0) (.con (.int (60)))) .anil)) (.con ((sV ":")))) (.call "two" (.acons (.bin .mod (.var 0) (.con (.int (60)))) .anil)))) .skip)
def d_time_text : Dx := ⟨"time_text", none, top 43, ["minute"], 1, k_time_text, none⟩
def k_date_text : Ks := (.seq (.asgT [1, 2, 0] (.call "date_of" (.acons (.var 0) .anil))) (.seq (.ret (.bin .add (.bin .add (.bin .add (.bin .add (.rj (.prim .str (.acons (.var 1) .anil)) (.con (.int (4))) (.con ((sV "0")))) (.con ((sV "-")))) (.call "two" (.acons (.var 2) .anil))) (.con ((sV "-")))) (.call "two" (.acons (.var 0) .anil)))) .skip))
def d_date_text : Dx := ⟨"date_text", none, top 44, ["day", "year", "month"], 1, k_date_text, none⟩
def k_on_text : Ks := (.seq (.ife (.cmp .eq (.var 0) (.con ((sV "weeks")))) (.seq (.ret (.lc (.one 2) [2] (.var 1) .yes (.ix (.glo "WEEKDAYS") (.var 2)))) .skip) .skip) (.seq (.ife (.cmp .eq (.var 0) (.con ((sV "years")))) (.seq (.ret (.lc (.many [3, 2]) [3, 2] (.var 1) .yes (.bin .add (.bin .add (.call "two" (.acons (.var 3) .anil)) (.con ((sV "-")))) (.call "two" (.acons (.var 2) .anil))))) .skip) .skip) (.seq (.ife (.cmp .eq (.var 1) (.tup .anil)) (.seq (.ret (.lst (.acons (.con ((sV "last"))) .anil))) .skip) .skip) (.seq (.ife (.and (.cmp .eq (.prim .len (.acons (.var 1) .anil)) (.con (.int (3)))) (.cmp .eq (.ix (.var 1) (.con (.int (2)))) (.con (.int (0))))) (.seq (.ret (.lst (.acons (.ix (.glo "NTHS") (.bin .sub (.ix (.var 1) (.con (.int (0)))) (.con (.int (1))))) (.acons (.ix (.glo "WEEKDAYS") (.ix (.var 1) (.con (.int (1))))) .anil)))) .skip) .skip) (.seq (.ret (.lc (.one 2) [2] (.var 1) .yes (.prim .str (.acons (.var 2) .anil)))) .skip)))))
def d_on_text : Dx := ⟨"on_text", none, top 45, ["unit", "on", "day", "month"], 2, k_on_text, none⟩
def k_written_t7 : Ks := .skip
def k_written_t6 : Ks := .seq (.ret (.tm .join (.con ((sV " "))) (.var 1))) k_written_t7
def k_written_t5 : Ks := .seq (.ife (.cmp .ne (.var 8) (.tup .anil)) (.seq (.asg 1 (.bin .add (.bin .add (.var 1) (.lst (.acons (.con ((sV "but"))) .anil))) (.lc (.one 10) [10] (.var 8) .yes (.call "date_text" (.acons (.var 10) .anil))))) .skip) .skip) k_written_t6
def k_written_t4 : Ks := .seq (.ife (.cmp .isnot (.var 7) (.con (.non))) (.seq (.asg 1 (.bin .add (.var 1) (.lst (.acons (.con ((sV "until"))) (.acons (.call "date_text" (.acons (.var 7) .anil)) .anil))))) .skip) .skip) k_written_t5
def k_written_t3 : Ks := .seq (.asg 1 (.bin .add (.bin .add (.bin .add (.var 1) (.lst (.acons (.con ((sV "at"))) .anil))) (.lc (.one 9) [9] (.var 5) .yes (.call "time_text" (.acons (.var 9) .anil)))) (.lst (.acons (.con ((sV "from"))) (.acons (.call "date_text" (.acons (.var 6) .anil)) .anil))))) k_written_t4
def k_written_t2 : Ks := .seq (.ife (.cmp .ne (.var 2) (.con ((sV "days")))) (.seq (.asg 1 (.bin .add (.bin .add (.var 1) (.lst (.acons (.con ((sV "on"))) .anil))) (.call "on_text" (.acons (.var 2) (.acons (.var 4) .anil))))) .skip) .skip) k_written_t3
def k_written_t1 : Ks := .seq (.asg 1 (.ife (.cmp .eq (.var 3) (.con (.int (1)))) (.lst (.acons (.ix (.glo "PLAIN") (.tix "UNITS" (.var 2))) .anil)) (.lst (.acons (.con ((sV "every"))) (.acons (.prim .str (.acons (.var 3) .anil)) (.acons (.var 2) .anil)))))) k_written_t2
def k_written_t0 : Ks := .seq (.asgT [2, 3, 4, 5, 6, 7, 8] (.var 0)) k_written_t1
def k_written : Ks := k_written_t0
def d_written : Dx := ⟨"written", none, top 46, ["rule", "words", "unit", "step", "on", "times", "first", "last", "but", "minute", "day"], 1, k_written, none⟩
def k_is_name : Ks := (.seq (.ret (.and (.chain .le .le (.con (.int (1))) (.prim .len (.acons (.var 0) .anil)) (.glo "MOST_NAME")) (.prim .all (.acons (.lc (.one 1) [1] (.var 0) .yes (.cmp .in_ (.var 1) (.glo "LETTERS"))) .anil)))) .skip)
def d_is_name : Dx := ⟨"is_name", none, top 54, ["word", "sign"], 1, k_is_name, none⟩
def k_read_number : Ks := (.seq (.ife (.and (.cmp .eq (.meth "Words" "sees" (.var 0) .anil) (.con ((sV "0")))) (.cmp .eq (.var 1) (.con (.int (0))))) (.seq (.expr (.meth "Words" "next_word" (.var 0) .anil)) (.seq (.ret (.con (.int (0)))) .skip)) .skip) (.seq (.ret (.meth "Words" "number" (.var 0) (.acons (.prim .max (.acons (.con (.int (1))) (.acons (.var 1) .anil))) (.acons (.glo "MOST") .anil)))) .skip))
def d_read_number : Dx := ⟨"read_number", none, top 55, ["words", "low"], 2, k_read_number, none⟩
def k_read_window : Ks := (.seq (.ife (.var 1) (.seq (.ret (.con (.non))) .skip) .skip) (.seq (.expr (.meth "Words" "wants" (.var 0) (.acons (.con ((sV "window"))) .anil))) (.seq (.ife (.and (.cmp .ne (.meth "Words" "sees" (.var 0) .anil) (.con ((sV "0")))) (.and (.call "is_figures" (.acons (.meth "Words" "sees" (.var 0) .anil) .anil)) (.cmp .gt (.prim .int (.acons (.meth "Words" "sees" (.var 0) .anil) .anil)) (.var 2)))) (.seq (.expr (.meth "Words" "refuse" (.var 0) .anil)) .skip) .skip) (.seq (.ret (.call "read_number" (.acons (.var 0) (.acons (.con (.int (0))) .anil)))) .skip))))
def d_read_window : Dx := ⟨"read_window", none, top 56, ["words", "is_along", "most"], 3, k_read_window, none⟩
def k_read_catch : Ks := (.seq (.ife (.cmp .notin (.meth "Words" "sees" (.var 0) .anil) (.glo "CATCHES")) (.seq (.expr (.meth "Words" "refuse" (.var 0) .anil)) .skip) .skip) (.seq (.ret (.meth "Words" "next_word" (.var 0) .anil)) .skip))
def d_read_catch : Dx := ⟨"read_catch", none, top 57, ["words"], 1, k_read_catch, none⟩
def k_read_name : Ks := (.seq (.ife (.not (.call "is_name" (.acons (.meth "Words" "sees" (.var 0) .anil) .anil))) (.seq (.expr (.meth "Words" "refuse" (.var 0) .anil)) .skip) .skip) (.seq (.ret (.meth "Words" "next_word" (.var 0) .anil)) .skip))
def d_read_name : Dx := ⟨"read_name", none, top 58, ["words"], 1, k_read_name, none⟩
def k_is_within : Ks := (.seq (.ret (.chain .le .lt (.bin .mul (.glo "DAY") (.call "day_of" (.acons (.glo "FIRST_YEAR_alarms") (.acons (.con (.int (1))) (.acons (.con (.int (1))) .anil))))) (.var 0) (.bin .mul (.glo "DAY") (.call "day_of" (.acons (.bin .add (.glo "LAST_YEAR_alarms") (.con (.int (1)))) (.acons (.con (.int (1))) (.acons (.con (.int (1))) .anil))))))) .skip)
def d_is_within : Dx := ⟨"is_within", none, top 59, ["minute"], 1, k_is_within, none⟩
def k_read_at : Ks := (.seq (.asg 2 (.call "read_name" (.acons (.var 0) .anil))) (.seq (.asg 3 (.call "date_in" (.acons (.meth "Words" "sees" (.var 0) .anil) .anil))) (.seq (.ife (.or (.cmp .is (.var 3) (.con (.non))) (.not (.call "is_within" (.acons (.bin .mul (.glo "DAY") (.var 3)) .anil)))) (.seq (.expr (.meth "Words" "refuse" (.var 0) .anil)) .skip) .skip) (.seq (.expr (.meth "Words" "next_word" (.var 0) .anil)) (.seq (.asg 4 (.call "time_of" (.acons (.meth "Words" "sees" (.var 0) .anil) .anil))) (.seq (.ife (.cmp .is (.var 4) (.con (.non))) (.seq (.expr (.meth "Words" "refuse" (.var 0) .anil)) .skip) .skip) (.seq (.expr (.meth "Words" "next_word" (.var 0) .anil)) (.seq (.ret (.tup (.acons (.con ((sV "at"))) (.acons (.var 2) (.acons (.bin .add (.bin .mul (.glo "DAY") (.var 3)) (.var 4)) (.acons (.call "read_window" (.acons (.var 0) (.acons (.var 1) (.acons (.glo "MOST") .anil)))) .anil)))))) .skip))))))))
def d_read_at : Dx := ⟨"read_at", none, top 60, ["words", "is_along", "name", "day", "time"], 2, k_read_at, none⟩
def k_read_kind_alarms_t11 : Ks := .skip
def k_read_kind_alarms_t10 : Ks := .seq (.ret (.tup (.acons (.con ((sV "by"))) (.acons (.var 3) (.acons (.call "read_rule" (.acons (.var 0) .anil)) (.acons (.var 4) (.acons (.var 5) .anil))))))) k_read_kind_alarms_t11
def k_read_kind_alarms_t9 : Ks := .seq (.expr (.meth "Words" "wants" (.var 0) (.acons (.con ((sV "when"))) .anil))) k_read_kind_alarms_t10
def k_read_kind_alarms_t8 : Ks := .seq (.asg 5 (.call "read_catch" (.acons (.var 0) .anil))) k_read_kind_alarms_t9
def k_read_kind_alarms_t7 : Ks := .seq (.asg 4 (.call "read_window" (.acons (.var 0) (.acons (.var 1) (.acons (.glo "MOST") .anil))))) k_read_kind_alarms_t8
def k_read_kind_alarms_t6 : Ks := .seq (.asg 3 (.call "read_name" (.acons (.var 0) .anil))) k_read_kind_alarms_t7
def k_read_kind_alarms_t5 : Ks := .seq (.ife (.cmp .eq (.var 2) (.con ((sV "at")))) (.seq (.ret (.call "read_at" (.acons (.var 0) (.acons (.var 1) .anil)))) .skip) .skip) k_read_kind_alarms_t6
def k_read_kind_alarms_t4 : Ks := .seq (.ife (.cmp .eq (.var 2) (.con ((sV "every")))) (.seq (.asg 6 (.call "read_number" (.acons (.var 0) (.acons (.con (.int (1))) .anil)))) (.seq (.expr (.meth "Words" "wants" (.var 0) (.acons (.con ((sV "first"))) .anil))) (.seq (.asg 7 (.call "read_number" (.acons (.var 0) (.acons (.con (.int (0))) .anil)))) (.seq (.ret (.tup (.acons (.con ((sV "every"))) (.acons (.var 6) (.acons (.var 7) (.acons (.call "read_window" (.acons (.var 0) (.acons (.var 1) (.acons (.bin .sub (.var 6) (.con (.int (1)))) .anil)))) (.acons (.call "read_catch" (.acons (.var 0) .anil)) .anil))))))) .skip)))) .skip) k_read_kind_alarms_t5
def k_read_kind_alarms_t3 : Ks := .seq (.ife (.cmp .eq (.var 2) (.con ((sV "after")))) (.seq (.ret (.tup (.acons (.con ((sV "after"))) (.acons (.call "read_number" (.acons (.var 0) (.acons (.con (.int (0))) .anil))) (.acons (.call "read_window" (.acons (.var 0) (.acons (.var 1) (.acons (.glo "MOST") .anil)))) .anil))))) .skip) .skip) k_read_kind_alarms_t4
def k_read_kind_alarms_t2 : Ks := .seq (.expr (.meth "Words" "next_word" (.var 0) .anil)) k_read_kind_alarms_t3
def k_read_kind_alarms_t1 : Ks := .seq (.ife (.cmp .notin (.var 2) (.tup (.acons (.con ((sV "after"))) (.acons (.con ((sV "every"))) (.acons (.con ((sV "at"))) (.acons (.con ((sV "by"))) .anil)))))) (.seq (.expr (.meth "Words" "refuse" (.var 0) .anil)) .skip) .skip) k_read_kind_alarms_t2
def k_read_kind_alarms_t0 : Ks := .seq (.asg 2 (.meth "Words" "sees" (.var 0) .anil)) k_read_kind_alarms_t1
def k_read_kind_alarms : Ks := k_read_kind_alarms_t0
def d_read_kind_alarms : Dx := ⟨"read_kind_alarms", none, top 61, ["words", "is_along", "word", "name", "window", "catch", "step", "first"], 2, k_read_kind_alarms, some "read_kind"⟩
def k_read_alarm_t6 : Ks := .skip
def k_read_alarm_t5 : Ks := .seq (.ret (.var 3)) k_read_alarm_t6
def k_read_alarm_t4 : Ks := .seq (.ife (.or (.cmp .is (.var 3) (.con (.non))) (.cmp .gt (.var 2) (.con (.int (0))))) (.seq (.raiseI "BadAlarm" (.var 2)) .skip) .skip) k_read_alarm_t5
def k_read_alarm_t3 : Ks := .seq (.tryW "BadRule" 4 2 (.seq (.asg 5 (.cmp .eq (.meth "Words" "sees" (.var 1) .anil) (.con ((sV "along"))))) (.seq (.ife (.var 5) (.seq (.expr (.meth "Words" "next_word" (.var 1) .anil)) .skip) .skip) (.seq (.asg 3 (.call "read_kind_alarms" (.acons (.var 1) (.acons (.var 5) .anil)))) (.seq (.ife (.cmp .lt (.fld (.var 1) "at") (.prim .len (.acons (.fld (.var 1) "words") .anil))) (.seq (.expr (.meth "Words" "refuse" (.var 1) .anil)) .skip) .skip) .skip))))) k_read_alarm_t4
def k_read_alarm_t2 : Ks := .seq (.asg 3 (.con (.non))) k_read_alarm_t3
def k_read_alarm_t1 : Ks := .seq (.asg 2 (.con (.int (0)))) k_read_alarm_t2
def k_read_alarm_t0 : Ks := .seq (.asg 1 (.new "Words" (.acons (.var 0) .anil))) k_read_alarm_t1
def k_read_alarm : Ks := k_read_alarm_t0
def d_read_alarm : Dx := ⟨"read_alarm", none, top 63, ["text", "words", "place", "found", "e", "is_along"], 1, k_read_alarm, none⟩
def k_window_of : Ks := (.seq (.ret (.ife (.cmp .in_ (.ix (.var 0) (.con (.int (0)))) (.tup (.acons (.con ((sV "every"))) (.acons (.con ((sV "at"))) (.acons (.con ((sV "by"))) .anil))))) (.ix (.var 0) (.con (.int (3)))) (.ix (.var 0) (.con (.int (2)))))) .skip)
def d_window_of : Dx := ⟨"window_of", none, top 64, ["parts"], 1, k_window_of, none⟩
def k_alarm_text_t7 : Ks := .skip
def k_alarm_text_t6 : Ks := .seq (.ret (.tm .join (.con ((sV " "))) (.bin .add (.bin .add (.bin .add (.var 2) (.lst (.acons (.con ((sV "by"))) (.acons (.ix (.var 0) (.con (.int (1)))) .anil)))) (.var 3)) (.lst (.acons (.ix (.var 0) (.con (.int (4)))) (.acons (.con ((sV "when"))) (.acons (.call "written" (.acons (.ix (.var 0) (.con (.int (2)))) .anil)) .anil))))))) k_alarm_text_t7
def k_alarm_text_t5 : Ks := .seq (.ife (.cmp .eq (.ix (.var 0) (.con (.int (0)))) (.con ((sV "at")))) (.seq (.asg 4 (.lst (.acons (.call "date_text" (.acons (.bin .div (.ix (.var 0) (.con (.int (2)))) (.glo "DAY")) .anil)) (.acons (.call "time_text" (.acons (.bin .mod (.ix (.var 0) (.con (.int (2)))) (.glo "DAY")) .anil)) .anil)))) (.seq (.ret (.tm .join (.con ((sV " "))) (.bin .add (.bin .add (.bin .add (.var 2) (.lst (.acons (.con ((sV "at"))) (.acons (.ix (.var 0) (.con (.int (1)))) .anil)))) (.var 4)) (.var 3)))) .skip)) .skip) k_alarm_text_t6
def k_alarm_text_t4 : Ks := .seq (.ife (.cmp .eq (.ix (.var 0) (.con (.int (0)))) (.con ((sV "every")))) (.seq (.ret (.tm .join (.con ((sV " "))) (.bin .add (.bin .add (.bin .add (.var 2) (.lst (.acons (.con ((sV "every"))) (.acons (.prim .str (.acons (.ix (.var 0) (.con (.int (1)))) .anil)) (.acons (.con ((sV "first"))) (.acons (.prim .str (.acons (.ix (.var 0) (.con (.int (2)))) .anil)) .anil)))))) (.var 3)) (.lst (.acons (.ix (.var 0) (.con (.int (4)))) .anil))))) .skip) .skip) k_alarm_text_t5
def k_alarm_text_t3 : Ks := .seq (.ife (.cmp .eq (.ix (.var 0) (.con (.int (0)))) (.con ((sV "after")))) (.seq (.ret (.tm .join (.con ((sV " "))) (.bin .add (.bin .add (.var 2) (.lst (.acons (.con ((sV "after"))) (.acons (.prim .str (.acons (.ix (.var 0) (.con (.int (1)))) .anil)) .anil)))) (.var 3)))) .skip) .skip) k_alarm_text_t4
def k_alarm_text_t2 : Ks := .seq (.asg 3 (.ife (.cmp .is (.var 1) (.con (.non))) (.lst .anil) (.lst (.acons (.con ((sV "window"))) (.acons (.prim .str (.acons (.var 1) .anil)) .anil))))) k_alarm_text_t3
def k_alarm_text_t1 : Ks := .seq (.asg 2 (.ife (.cmp .is (.var 1) (.con (.non))) (.lst (.acons (.con ((sV "along"))) .anil)) (.lst .anil))) k_alarm_text_t2
def k_alarm_text_t0 : Ks := .seq (.asg 1 (.call "window_of" (.acons (.var 0) .anil))) k_alarm_text_t1
def k_alarm_text : Ks := k_alarm_text_t0
def d_alarm_text : Dx := ⟨"alarm_text", none, top 65, ["parts", "window", "words", "tail", "minute"], 1, k_alarm_text, none⟩
def k__law_cell : Ks := (.seq (.ife (.var 0) (.seq (.ret (.ix (.var 0) (.bin .mod (.var 1) (.prim .len (.acons (.var 0) .anil))))) .skip) .skip) (.seq (.ret (.con (.int (0)))) .skip))
def d__law_cell : Dx := ⟨"_law_cell", none, top 67, ["_law_script", "_law_k"], 2, k__law_cell, none⟩
def k__law_mix : Ks := (.seq (.asg 2 (.bin .mod (.bin .add (.call "_law_cell" (.acons (.var 0) (.acons (.var 1) .anil))) (.bin .mul (.con (.int (104729))) (.bin .add (.var 1) (.con (.int (1)))))) (.con (.int (4294967291))))) (.seq (.asg 2 (.bin .mod (.bin .pow (.var 2) (.con (.int (5)))) (.con (.int (4294967279))))) (.seq (.ret (.bin .mod (.bin .add (.bin .mul (.bin .div (.var 2) (.con (.int (64)))) (.con (.int (69621)))) (.var 2)) (.con (.int (4294967231))))) .skip)))
def d__law_mix : Dx := ⟨"_law_mix", none, top 68, ["_law_script", "_law_k", "_law_number"], 2, k__law_mix, none⟩
def k__law_length : Ks := (.seq (.ife (.cmp .eq (.var 1) (.con (.int (2)))) (.seq (.ret (.ife (.or (.cmp .eq (.bin .mod (.var 0) (.con (.int (400)))) (.con (.int (0)))) (.and (.cmp .eq (.bin .mod (.var 0) (.con (.int (4)))) (.con (.int (0)))) (.cmp .gt (.bin .mod (.var 0) (.con (.int (100)))) (.con (.int (0)))))) (.con (.int (29))) (.con (.int (28))))) .skip) .skip) (.seq (.ret (.ife (.cmp .in_ (.var 1) (.tup (.acons (.con (.int (4))) (.acons (.con (.int (6))) (.acons (.con (.int (9))) (.acons (.con (.int (11))) .anil)))))) (.con (.int (30))) (.con (.int (31))))) .skip))
def d__law_length : Dx := ⟨"_law_length", none, top 70, ["_law_year", "_law_month"], 2, k__law_length, none⟩
def k__law_new_year : Ks := (.seq (.asg 1 (.bin .sub (.var 0) (.con (.int (1))))) (.seq (.ret (.bin .sub (.bin .add (.bin .sub (.bin .add (.bin .mul (.con (.int (365))) (.var 1)) (.bin .div (.var 1) (.con (.int (4))))) (.bin .div (.var 1) (.con (.int (100))))) (.bin .div (.var 1) (.con (.int (400))))) (.con (.int (730119))))) .skip))
def d__law_new_year : Dx := ⟨"_law_new_year", none, top 71, ["_law_year", "_law_past"], 1, k__law_new_year, none⟩
def k__law_day : Ks := (.seq (.ret (.bin .sub (.bin .add (.bin .add (.call "_law_new_year" (.acons (.var 0) .anil)) (.prim .sum (.acons (.lc (.one 3) [3] (.itR (.acons (.con (.int (1))) (.acons (.var 1) .anil))) .yes (.call "_law_length" (.acons (.var 0) (.acons (.var 3) .anil)))) .anil))) (.var 2)) (.con (.int (1))))) .skip)
def d__law_day : Dx := ⟨"_law_day", none, top 72, ["_law_year", "_law_month", "_law_day_here", "_law_one"], 3, k__law_day, none⟩
def k__law_rule_text : Ks := (.seq (.asg 1 (.lst (.acons (.con ((sV "daily at 02:30 from 2024-01-01"))) (.acons (.con ((sV "weekly on su at 01:30 02:00 03:00 from 2024-01-01"))) .anil)))) (.seq (.asg 1 (.bin .add (.var 1) (.lst (.acons (.con ((sV "every 2 days at 23:59 from 2024-03-01 until 2024-12-31 but 2024-03-31 2024-10-27"))) .anil)))) (.seq (.asg 1 (.bin .add (.var 1) (.lst (.acons (.con ((sV "monthly on last at 00:00 from 2024-01-31"))) (.acons (.con ((sV "every 3 weeks on mo fr at 12:00 from 2024-02-01"))) .anil))))) (.seq (.asg 1 (.bin .add (.var 1) (.lst (.acons (.con ((sV "yearly on 03-31 10-27 at 02:15 02:45 from 2020-01-01"))) (.acons (.con ((sV "monthly on 2nd su at 02:00 from 2024-03-01"))) .anil))))) (.seq (.ret (.ix (.bin .add (.var 1) (.lst (.acons (.con ((sV "daily at 00:00 06:00 12:00 18:00 from 2024-03-30 until 2024-04-03"))) .anil))) (.bin .mod (.var 0) (.con (.int (8)))))) .skip)))))
def d__law_rule_text : Dx := ⟨"_law_rule_text", none, top 77, ["_law_number", "_law_some"], 1, k__law_rule_text, none⟩
def k__law_alarm_text_t11 : Ks := .skip
def k__law_alarm_text_t10 : Ks := .seq (.ret (.bin .add (.bin .add (.bin .add (.bin .add (.bin .add (.var 6) (.con ((sV "by ")))) (.var 8)) (.var 5)) (.con ((sV " when ")))) (.call "_law_rule_text" (.acons (.bin .div (.var 3) (.con (.int (160)))) .anil)))) k__law_alarm_text_t11
def k__law_alarm_text_t9 : Ks := .seq (.asg 5 (.bin .add (.bin .add (.var 5) (.con ((sV " ")))) (.var 7))) k__law_alarm_text_t10
def k__law_alarm_text_t8 : Ks := .seq (.ife (.cmp .eq (.bin .mod (.var 3) (.con (.int (8)))) (.con (.int (5)))) (.seq (.asg 11 (.ix (.lst (.acons (.con ((sV "2024-03-31"))) (.acons (.con ((sV "2024-10-27"))) (.acons (.con ((sV "2024-03-10"))) (.acons (.con ((sV "2024-11-03"))) (.acons (.con ((sV "2024-04-02"))) (.acons (.con ((sV "2024-10-06"))) .anil))))))) (.bin .mod (.bin .div (.var 3) (.con (.int (160)))) (.con (.int (6)))))) (.seq (.asg 12 (.ix (.lst (.acons (.con ((sV "02:30"))) (.acons (.con ((sV "01:30"))) (.acons (.con ((sV "00:00"))) (.acons (.con ((sV "23:59"))) .anil))))) (.bin .mod (.bin .div (.var 3) (.con (.int (960)))) (.con (.int (4)))))) (.seq (.ret (.bin .add (.bin .add (.bin .add (.bin .add (.bin .add (.bin .add (.bin .add (.var 6) (.con ((sV "at ")))) (.var 8)) (.con ((sV " ")))) (.var 11)) (.con ((sV " ")))) (.var 12)) (.var 5))) .skip))) .skip) k__law_alarm_text_t9
def k__law_alarm_text_t7 : Ks := .seq (.ife (.cmp .lt (.bin .mod (.var 3) (.con (.int (8)))) (.con (.int (5)))) (.seq (.asg 9 (.ix (.lst (.acons (.con (.int (40))) (.acons (.con (.int (60))) (.acons (.con (.int (1440))) (.acons (.bin .add (.con (.int (40))) (.bin .mod (.bin .div (.var 3) (.con (.int (160)))) (.con (.int (300))))) .anil))))) (.bin .mod (.bin .div (.var 3) (.con (.int (160)))) (.con (.int (4)))))) (.seq (.asg 5 (.ife (.var 2) (.con ((sV ""))) (.bin .add (.con ((sV " window "))) (.prim .str (.acons (.prim .min (.acons (.prim .int (.acons (.var 4) .anil)) (.acons (.bin .sub (.var 9) (.con (.int (1)))) .anil))) .anil))))) (.seq (.asg 10 (.bin .add (.con ((sV " first "))) (.prim .str (.acons (.bin .mod (.bin .div (.var 3) (.con (.int (640)))) (.con (.int (100)))) .anil)))) (.seq (.ret (.bin .add (.bin .add (.bin .add (.bin .add (.bin .add (.bin .add (.var 6) (.con ((sV "every ")))) (.prim .str (.acons (.var 9) .anil))) (.var 10)) (.var 5)) (.con ((sV " ")))) (.var 7))) .skip)))) .skip) k__law_alarm_text_t8
def k__law_alarm_text_t6 : Ks := .seq (.ife (.cmp .lt (.bin .mod (.var 3) (.con (.int (8)))) (.con (.int (2)))) (.seq (.ret (.bin .add (.bin .add (.bin .add (.var 6) (.con ((sV "after ")))) (.prim .str (.acons (.ix (.lst (.acons (.con (.int (0))) (.acons (.con (.int (1))) (.acons (.con (.int (30))) (.acons (.con (.int (700))) (.acons (.bin .mod (.bin .div (.var 3) (.con (.int (160)))) (.con (.int (3000)))) .anil)))))) (.bin .mod (.bin .div (.var 3) (.con (.int (160)))) (.con (.int (5))))) .anil))) (.var 5))) .skip) .skip) k__law_alarm_text_t7
def k__law_alarm_text_t5 : Ks := .seq (.asg 8 (.ix (.lst (.acons (.con ((sV "home"))) (.acons (.con ((sV "far"))) .anil))) (.bin .mod (.bin .div (.var 3) (.con (.int (80)))) (.con (.int (2)))))) k__law_alarm_text_t6
def k__law_alarm_text_t4 : Ks := .seq (.asg 7 (.ix (.lst (.acons (.con ((sV "each"))) (.acons (.con ((sV "one"))) .anil))) (.bin .mod (.bin .div (.var 3) (.con (.int (40)))) (.con (.int (2)))))) k__law_alarm_text_t5
def k__law_alarm_text_t3 : Ks := .seq (.asg 6 (.ife (.var 2) (.con ((sV "along "))) (.con ((sV ""))))) k__law_alarm_text_t4
def k__law_alarm_text_t2 : Ks := .seq (.asg 5 (.ife (.var 2) (.con ((sV ""))) (.bin .add (.con ((sV " window "))) (.var 4)))) k__law_alarm_text_t3
def k__law_alarm_text_t1 : Ks := .seq (.asg 4 (.ix (.lst (.acons (.con ((sV "0"))) (.acons (.con ((sV "5"))) (.acons (.con ((sV "30"))) (.acons (.con ((sV "90"))) (.acons (.con ((sV "19"))) .anil)))))) (.bin .mod (.bin .div (.var 3) (.con (.int (8)))) (.con (.int (5)))))) k__law_alarm_text_t2
def k__law_alarm_text_t0 : Ks := .seq (.asg 3 (.call "_law_mix" (.acons (.var 0) (.acons (.var 1) .anil)))) k__law_alarm_text_t1
def k__law_alarm_text : Ks := k__law_alarm_text_t0
def d__law_alarm_text : Dx := ⟨"_law_alarm_text", none, top 78, ["_law_script", "_law_k", "_law_along", "_law_number", "_law_window", "_law_tail", "_law_head", "_law_catch", "_law_name", "_law_step", "_law_first", "_law_date_here", "_law_time"], 3, k__law_alarm_text, none⟩
def k__law_parts_t9 : Ks := .skip
def k__law_parts_t8 : Ks := .seq (.ret (.tup (.acons (.con ((sV "by"))) (.acons (.ix (.var 1) (.con (.int (1)))) (.acons (.call "read" (.acons (.tm .join (.con ((sV " "))) (.sl (.var 1) (.bin .add (.var 4) (.con (.int (1)))) .anil)) .anil)) (.acons (.var 3) (.acons (.ix (.var 1) (.bin .sub (.var 4) (.con (.int (1))))) .anil))))))) k__law_parts_t9
def k__law_parts_t7 : Ks := .seq (.asg 4 (.lix (.var 1) (.con ((sV "when"))))) k__law_parts_t8
def k__law_parts_t6 : Ks := .seq (.ife (.cmp .eq (.ix (.var 1) (.con (.int (0)))) (.con ((sV "at")))) (.seq (.asg 5 (.call "_law_day" (.acons (.prim .int (.acons (.sl (.ix (.var 1) (.con (.int (2)))) .anil (.con (.int (4)))) .anil)) (.acons (.prim .int (.acons (.sl (.ix (.var 1) (.con (.int (2)))) (.con (.int (5))) (.con (.int (7)))) .anil)) (.acons (.prim .int (.acons (.sl (.ix (.var 1) (.con (.int (2)))) (.con (.int (8))) .anil) .anil)) .anil))))) (.seq (.ret (.tup (.acons (.con ((sV "at"))) (.acons (.ix (.var 1) (.con (.int (1)))) (.acons (.bin .add (.bin .add (.bin .mul (.con (.int (1440))) (.var 5)) (.bin .mul (.con (.int (60))) (.prim .int (.acons (.sl (.ix (.var 1) (.con (.int (3)))) .anil (.con (.int (2)))) .anil)))) (.prim .int (.acons (.sl (.ix (.var 1) (.con (.int (3)))) (.con (.int (3))) .anil) .anil))) (.acons (.var 3) .anil)))))) .skip)) .skip) k__law_parts_t7
def k__law_parts_t5 : Ks := .seq (.ife (.cmp .eq (.ix (.var 1) (.con (.int (0)))) (.con ((sV "every")))) (.seq (.ret (.tup (.acons (.con ((sV "every"))) (.acons (.prim .int (.acons (.ix (.var 1) (.con (.int (1)))) .anil)) (.acons (.prim .int (.acons (.ix (.var 1) (.con (.int (3)))) .anil)) (.acons (.var 3) (.acons (.ix (.var 1) (.neg (.con (.int (1))))) .anil))))))) .skip) .skip) k__law_parts_t6
def k__law_parts_t4 : Ks := .seq (.ife (.cmp .eq (.ix (.var 1) (.con (.int (0)))) (.con ((sV "after")))) (.seq (.ret (.tup (.acons (.con ((sV "after"))) (.acons (.prim .int (.acons (.ix (.var 1) (.con (.int (1)))) .anil)) (.acons (.var 3) .anil))))) .skip) .skip) k__law_parts_t5
def k__law_parts_t3 : Ks := .seq (.asg 3 (.ife (.var 2) (.con (.non)) (.prim .int (.acons (.ix (.var 1) (.bin .add (.lix (.var 1) (.con ((sV "window")))) (.con (.int (1))))) .anil)))) k__law_parts_t4
def k__law_parts_t2 : Ks := .seq (.asg 1 (.sl (.var 1) (.prim .int (.acons (.var 2) .anil)) .anil)) k__law_parts_t3
def k__law_parts_t1 : Ks := .seq (.asg 2 (.cmp .eq (.ix (.var 1) (.con (.int (0)))) (.con ((sV "along"))))) k__law_parts_t2
def k__law_parts_t0 : Ks := .seq (.asg 1 (.tm .split (.var 0) (.con ((sV " "))))) k__law_parts_t1
def k__law_parts : Ks := k__law_parts_t0
def d__law_parts : Dx := ⟨"_law_parts", none, top 79, ["_law_text", "_law_words", "_law_along", "_law_window", "_law_spot", "_law_day_here"], 1, k__law_parts, none⟩
def k_law_t5 : Ks := .skip
def k_law_t4 : Ks := .seq (.ret (.cmp .eq (.call "alarm_text" (.acons (.var 2) .anil)) (.var 1))) k_law_t5
def k_law_t3 : Ks := .seq (.ife (.or (.not (.prim .isinst (.acons (.var 2) (.acons (.glo "tuple") .anil)))) (.or (.cmp .ne (.var 2) (.var 3)) (.cmp .gt (.lcnt (.lc (.one 4) [4] (.var 2) .yes (.prim .isinst (.acons (.var 4) (.acons (.glo "bool") .anil)))) (.con (.bl true))) (.con (.int (0)))))) (.seq (.ret (.con (.bl false))) .skip) .skip) k_law_t4
def k_law_t2 : Ks := .seq (.asg 3 (.call "_law_parts" (.acons (.var 1) .anil))) k_law_t3
def k_law_t1 : Ks := .seq (.asg 2 (.call "read_alarm" (.acons (.var 1) .anil))) k_law_t2
def k_law_t0 : Ks := .seq (.asg 1 (.call "_law_alarm_text" (.acons (.var 0) (.acons (.con (.int (0))) (.acons (.cmp .eq (.bin .mod (.call "_law_mix" (.acons (.var 0) (.acons (.con (.int (1))) .anil))) (.con (.int (3)))) (.con (.int (0)))) .anil))))) k_law_t1
def k_law : Ks := k_law_t0
def d_law : Dx := ⟨"law", none, top 80, ["_law_script", "_law_text", "_law_found", "_law_due", "_law_one"], 1, k_law, none⟩
def x_BadRule : Dx := ⟨"BadRule", some "__init__", mth (top 3) 0, ["self", "word"], 2, .skip, none⟩
def x_BadAlarm : Dx := ⟨"BadAlarm", some "__init__", mth (top 4) 0, ["self", "word"], 2, .skip, none⟩
def P : Px := { defs := [d_is_leap, d_month_length, d_before_year, d_day_of, d_year_of, d_date_of, d_Words_init, d_Words_refuse, d_Words_sees, d_Words_next_word, d_Words_wants, d_Words_number, d_is_figures, d_time_of, d_date_in, d_month_day_in, d_read_some, d_weekday_in, d_month_part, d_read_month, d_read_kind_words, d_read_on, d_read_date, d_read, d_read_rule, d_two, d_time_text, d_date_text, d_on_text, d_written, d_is_name, d_read_number, d_read_window, d_read_catch, d_read_name, d_is_within, d_read_at, d_read_kind_alarms, d_read_alarm, d_window_of, d_alarm_text, d__law_cell, d__law_mix, d__law_length, d__law_new_year, d__law_day, d__law_rule_text, d__law_alarm_text, d__law_parts, d_law], glo := [("CATCHES", .tup [(sV "each"), (sV "one")]), ("DAY", .int (1440)), ("FIGURES", (sV "0123456789")), ("FIRST_DAY", .int (-730119)), ("FIRST_YEAR_alarms", .int (10)), ("FIRST_YEAR_days", .int (1)), ("LAST_DAY", .int (2921939)), ("LAST_YEAR_alarms", .int (9990)), ("LAST_YEAR_days", .int (9999)), ("LENGTHS", .tup [.int (31), .int (28), .int (31), .int (30), .int (31), .int (30), .int (31), .int (31), .int (30), .int (31), .int (30), .int (31)]), ("LETTERS", (sV "abcdefghijklmnopqrstuvwxyz")), ("MOST", .int (99999)), ("MOST_NAME", .int (8)), ("MOST_STEP", .int (400)), ("MOST_TIMES", .int (24)), ("NTHS", .tup [(sV "1st"), (sV "2nd"), (sV "3rd"), (sV "4th"), (sV "last")]), ("PLAIN", .tup [(sV "daily"), (sV "weekly"), (sV "monthly"), (sV "yearly")]), ("UNITS", .tup [(sV "days"), (sV "weeks"), (sV "months"), (sV "years")]), ("WEEKDAYS", .tup [(sV "mo"), (sV "tu"), (sV "we"), (sV "th"), (sV "fr"), (sV "sa"), (sV "su")]), ("ZERO", .int (730119)), ("bool", .ty "bool"), ("date_in", .fn "date_in"), ("month_day_in", .fn "month_day_in"), ("month_part", .fn "month_part"), ("time_of", .fn "time_of"), ("tuple", .ty "tuple"), ("weekday_in", .fn "weekday_in")], free := ["all", "int", "isinstance", "len", "max", "min", "range", "str", "sum", "tuple"], exc := ["BadDate"], fld := [("Words", "at"), ("Words", "words")], fuel := 1000000000000, sub := [(("BadAlarm", "BadDate"), false), (("BadAlarm", "BadRule"), false), (("BadDate", "BadDate"), true), (("BadDate", "BadRule"), false), (("BadRule", "BadDate"), false), (("BadRule", "BadRule"), true)], tup := ["NTHS", "PLAIN", "UNITS", "WEEKDAYS"], xin := [x_BadAlarm, x_BadRule], cls := ["BadDate"] }
theorem good : P.good = true := by decide +kernel
end Wk50
end
section
namespace Wk50
open PySem PySem.Spec PyProof.Rows L2 Mi
abbrev G (n : Nat) : Ga := gaOf P n
/-! days, as they are counted -/
def leap (y : Int) : Bool := (decide (y % 4 = 0) && !decide (y % 100 = 0)) || decide (y % 400 = 0)
def mlen (y m : Int) : Int := if m = 2 then (if leap y then 29 else 28) else if m = 4 ∨ m = 6 ∨ m = 9 ∨ m = 11 then 30 else 31
def bef (y : Int) : Int := 365 * (y - 1) + (y - 1) / 4 - (y - 1) / 100 + (y - 1) / 400
def cum (y : Int) : Nat → Int
  | 0 => 0
  | k + 1 => cum y k + mlen y (k + 1)
theorem mlen_lo (y m : Int) : 28 ≤ mlen y m := by
  unfold mlen
  split
  · split <;> omega
  · split <;> omega
theorem mlen_hi (y m : Int) : mlen y m ≤ 31 := by
  unfold mlen
  split
  · split <;> omega
  · split <;> omega
theorem leap_iff (y : Int) : leap y = true ↔ (y % 4 = 0 ∧ y % 100 ≠ 0) ∨ y % 400 = 0 := by
  unfold leap
  simp
theorem bef_next (y : Int) : bef (y + 1) = bef y + 365 + (if leap y then 1 else 0) := by
  have h := leap_iff y
  unfold bef
  by_cases c : leap y = true
  · rw [if_pos c]
    have := h.mp c
    omega
  · rw [if_neg c]
    have : ¬ ((y % 4 = 0 ∧ y % 100 ≠ 0) ∨ y % 400 = 0) := fun z => c (h.mpr z)
    omega
theorem bef_mono (y : Int) (k : Nat) : bef y + 365 * k ≤ bef (y + k) := by
  induction k with
  | zero => simp
  | succ k ih =>
    have := bef_next (y + k)
    rw [Int.natCast_add, ← Int.add_assoc]
    show _ ≤ bef (y + k + 1)
    rw [this]
    split <;> omega
theorem bef_le {y z : Int} (h : y ≤ z) : bef y + 365 * (z - y) ≤ bef z := by
  have := bef_mono y (z - y).toNat
  have e : y + ((z - y).toNat : Int) = z := by omega
  rw [e] at this
  omega
theorem bef_hi {y : Int} (h : 1 ≤ y) : bef y ≤ 366 * (y - 1) := by
  unfold bef
  omega
theorem bef_1 : bef 1 = 0 := by decide
theorem cum_12 (y : Int) : cum y 12 = 365 + (if leap y then 1 else 0) := by
  simp only [cum, mlen]
  by_cases c : leap y = true <;> simp [c]
theorem cum_lo (y : Int) (k : Nat) : 0 ≤ cum y k := by
  induction k with
  | zero => exact Int.le_refl _
  | succ k ih =>
    have := mlen_lo y (k + 1)
    show 0 ≤ cum y k + mlen y (k + 1)
    omega
theorem cum_mono (y : Int) {j k : Nat} (h : j ≤ k) : cum y j ≤ cum y k := by
  induction k with
  | zero =>
    have : j = 0 := by omega
    subst this
    exact Int.le_refl _
  | succ k ih =>
    by_cases c : j = k + 1
    · subst c
      exact Int.le_refl _
    · have h1 := ih (by omega)
      have := mlen_lo y (k + 1)
      show _ ≤ cum y k + mlen y (k + 1)
      omega
/-- y, m, d are a date of the years told of -/
structure IsDate (y m d : Int) : Prop where
  y1 : 1 ≤ y
  y2 : y ≤ 9999
  m1 : 1 ≤ m
  m2 : m ≤ 12
  d1 : 1 ≤ d
  d2 : d ≤ mlen y m
def dayN (y m d : Int) : Int := bef y + cum y (m - 1).toNat + d - 1 - 730119
theorem IsDate.within {y m d : Int} (h : IsDate y m d) : 0 ≤ cum y (m - 1).toNat + d - 1 ∧ cum y (m - 1).toNat + d ≤ cum y 12 := by
  have h1 := cum_lo y (m - 1).toNat
  have h2 : cum y ((m - 1).toNat + 1) ≤ cum y 12 := cum_mono y (by have := h.m2; omega)
  have e : (((m - 1).toNat : Nat) : Int) + 1 = m := by have := h.m1; omega
  have h3 : cum y ((m - 1).toNat + 1) = cum y (m - 1).toNat + mlen y m := by
    show cum y (m - 1).toNat + mlen y (((m - 1).toNat : Nat) + 1) = _
    rw [e]
  have := h.d1
  have := h.d2
  omega
theorem IsDate.year {y m d : Int} (h : IsDate y m d) : bef y ≤ dayN y m d + 730119 ∧ dayN y m d + 730119 < bef (y + 1) := by
  have h1 := h.within
  have h2 := cum_12 y
  have h3 := bef_next y
  unfold dayN
  omega
theorem IsDate.range {y m d : Int} (h : IsDate y m d) : -730119 ≤ dayN y m d ∧ dayN y m d ≤ 2921939 := by
  have h1 := h.year
  have h2 := bef_le (y := 1) (z := y) h.y1
  have h3 := bef_le (y := y + 1) (z := 10000) (by have := h.y2; omega)
  have h4 := bef_1
  have h5 : bef 10000 = 3652059 := by decide
  have := h.y1
  have := h.y2
  omega
theorem m_cases {m : Int} (h1 : 1 ≤ m) (h2 : m ≤ 12) : m = 1 ∨ m = 2 ∨ m = 3 ∨ m = 4 ∨ m = 5 ∨ m = 6 ∨ m = 7 ∨ m = 8 ∨ m = 9 ∨ m = 10 ∨ m = 11 ∨ m = 12 := by omega
theorem cum_lt {y m d : Int} (h : IsDate y m d) {j : Nat} (hj : (j : Int) < m - 1) : cum y (j + 1) ≤ cum y (m - 1).toNat := cum_mono y (by omega)
theorem cum_succ (y : Int) (j : Nat) : cum y (j + 1) = cum y j + mlen y ((j : Int) + 1) := rfl
/-! every day has its date -/
theorem ex_year (k : Nat) : ∀ p : Int, 0 ≤ p → p < bef (1 + (k : Int)) → ∃ y : Int, 1 ≤ y ∧ y ≤ k ∧ bef y ≤ p ∧ p < bef (y + 1) := by
  induction k with
  | zero =>
    intro p h1 h2
    have := bef_1
    simp at h2
    omega
  | succ k ih =>
    intro p h1 h2
    by_cases c : p < bef (1 + (k : Int))
    · obtain ⟨y, a, b, d, e⟩ := ih p h1 c
      exact ⟨y, a, by omega, d, e⟩
    · refine ⟨(k : Int) + 1, by omega, by omega, ?_, ?_⟩
      · rw [Int.add_comm]
        omega
      · have e : (1 : Int) + ((k + 1 : Nat) : Int) = (k : Int) + 1 + 1 := by omega
        rw [e] at h2
        exact h2
theorem ex_month (y : Int) (k : Nat) : ∀ p : Int, 0 ≤ p → p < cum y k → ∃ j : Nat, j < k ∧ cum y j ≤ p ∧ p < cum y (j + 1) := by
  induction k with
  | zero =>
    intro p h1 h2
    have h2 : p < 0 := h2
    omega
  | succ k ih =>
    intro p h1 h2
    by_cases c : p < cum y k
    · obtain ⟨j, a, b⟩ := ih p h1 c
      exact ⟨j, by omega, b⟩
    · exact ⟨k, by omega, by omega, h2⟩
theorem ex_date {x : Int} (h1 : -730119 ≤ x) (h2 : x ≤ 2921939) : ∃ y m d, IsDate y m d ∧ dayN y m d = x := by
  have b : bef 10000 = 3652059 := by decide
  obtain ⟨y, y1, y2, a1, a2⟩ := ex_year 9999 (x + 730119) (by omega) (by
    rw [show (1 : Int) + ((9999 : Nat) : Int) = 10000 from rfl, b]
    omega)
  have n := bef_next y
  have c12 := cum_12 y
  obtain ⟨j, j1, j2, j3⟩ := ex_month y 12 (x + 730119 - bef y) (by omega) (by omega)
  rw [cum_succ] at j3
  refine ⟨y, (j : Int) + 1, x + 730119 - bef y - cum y j + 1, ⟨y1, by omega, by omega, by omega, by omega, by omega⟩, ?_⟩
  unfold dayN
  have e : ((j : Int) + 1 - 1).toNat = j := by omega
  rw [e]
  omega
/-! the program's own -/
theorem f_is_leap (n : Nat) : (G (n + 1)).fn "is_leap" = some (Dx.run (G n) d_is_leap) := rfl
theorem f_month_length (n : Nat) : (G (n + 1)).fn "month_length" = some (Dx.run (G n) d_month_length) := rfl
theorem f_before_year (n : Nat) : (G (n + 1)).fn "before_year" = some (Dx.run (G n) d_before_year) := rfl
theorem f_day_of (n : Nat) : (G (n + 1)).fn "day_of" = some (Dx.run (G n) d_day_of) := rfl
theorem g_FIRST_YEAR (n : Nat) : (G n).glo "FIRST_YEAR_days" = some (.int 1) := by cases n <;> rfl
theorem g_LAST_YEAR (n : Nat) : (G n).glo "LAST_YEAR_days" = some (.int 9999) := by cases n <;> rfl
theorem g_ZERO (n : Nat) : (G n).glo "ZERO" = some (.int 730119) := by cases n <;> rfl
theorem g_LENGTHS (n : Nat) : (G n).glo "LENGTHS" = some (.tup [.int 31, .int 28, .int 31, .int 30, .int 31, .int 30, .int 31, .int 31, .int 30, .int 31, .int 30, .int 31]) := by cases n <;> rfl
theorem fuel_G (n : Nat) : (G n).fuel = 1000000000000 := by cases n <;> rfl
theorem is_leap_ok (n : Nat) (y : Int) (S : Store) : Dx.run (G n) d_is_leap [.int y] S = .ok (.bl (leap y)) S := by
  rw [run_d rfl]
  simp [d_is_leap, k_is_leap, q_mod]
  rfl
theorem before_year_ok (n : Nat) (y : Int) (S : Store) : Dx.run (G n) d_before_year [.int y] S = .ok (.int (bef y)) S := by
  rw [run_d rfl]
  simp [d_before_year, k_before_year, q_mod, q_div, q_mul]
  rfl
theorem month_length_ok (n : Nat) {y m : Int} (S : Store) (h1 : 1 ≤ y) (h2 : y ≤ 9999) (h3 : 1 ≤ m) (h4 : m ≤ 12) : Dx.run (G (n + 1)) d_month_length [.int y, .int m] S = .ok (.int (mlen y m)) S := by
  rw [run_d rfl]
  rcases m_cases h3 h4 with rfl | rfl | rfl | rfl | rfl | rfl | rfl | rfl | rfl | rfl | rfl | rfl <;>
    simp [d_month_length, k_month_length, g_FIRST_YEAR, g_LAST_YEAR, g_LENGTHS, h1, h2, f_is_leap, is_leap_ok, atI, ixN, mlen]
  split <;> rfl
theorem month_length_ex (n : Nat) {y m : Int} (S : Store) (h : ¬ (1 ≤ y ∧ y ≤ 9999 ∧ 1 ≤ m ∧ m ≤ 12)) : Dx.run (G (n + 1)) d_month_length [.int y, .int m] S = .ex "BadDate" none S := by
  rw [run_d rfl]
  have e : (!decide (1 ≤ y) || !decide (y ≤ 9999) || (!decide (1 ≤ m) || !decide (m ≤ 12))) = true := by
    simp
    omega
  simp [d_month_length, k_month_length, g_FIRST_YEAR, g_LAST_YEAR, g_LENGTHS, e]
theorem day_of_ok (n : Nat) {y m d : Int} (S : Store) (h : IsDate y m d) : Dx.run (G (n + 2)) d_day_of [.int y, .int m, .int d] S = .ok (.int (dayN y m d)) S := by
  rw [run_d rfl]
  have l1 := mlen_lo y m
  simp [d_day_of, k_day_of, g_ZERO, f_month_length, f_before_year, month_length_ok, before_year_ok, h.y1, h.y2, h.m1, h.m2, h.d1, h.d2]
  have r : rng [.int 1, .int m] = some (upto 1 1 (m - 1).toNat) := rng_2 (by have := h.m1; have := h.m2; omega)
  simp [r]
  rw [for_go (fun i => [.val (.int y), .val (.int m), .val (.int d), .val (.int (bef y + d - 1 - 730119 + cum y i)), if i = 0 then .no else .val (.int i)]) (by simp [cum])]
  · simp [upto_len, dayN]
    omega
  · intro j w hw
    obtain ⟨hj, rfl⟩ := upto_get hw
    refine ⟨_, rfl, ?_⟩
    have q1 : 1 ≤ 1 + (j : Int) := by omega
    have q2 : 1 + (j : Int) ≤ 12 := by have := h.m2; omega
    simp [f_month_length, month_length_ok, h.y1, h.y2, q1, q2]
    rw [Int.add_comm 1 (j : Int)]
    exact ⟨Int.add_assoc _ _ _, rfl⟩
theorem f_year_of (n : Nat) : (G (n + 1)).fn "year_of" = some (Dx.run (G n) d_year_of) := rfl
theorem f_date_of (n : Nat) : (G (n + 1)).fn "date_of" = some (Dx.run (G n) d_date_of) := rfl
theorem g_FIRST_DAY (n : Nat) : (G n).glo "FIRST_DAY" = some (.int (-730119)) := by cases n <;> rfl
theorem g_LAST_DAY (n : Nat) : (G n).glo "LAST_DAY" = some (.int 2921939) := by cases n <;> rfl
theorem year_of_ok (n : Nat) {y x : Int} (S : Store) (h1 : 1 ≤ y) (h2 : y ≤ 9999) (h3 : bef y ≤ x + 730119) (h4 : x + 730119 < bef (y + 1)) : Dx.run (G (n + 1)) d_year_of [.int x] S = .ok (.int y) S := by
  rw [run_d rfl]
  have a := bef_hi (y := y + 1) (by omega)
  have b := bef_le (y := 1) (z := y) h1
  have b1 := bef_1
  have c : (x + 730119) / 366 + 1 ≤ y := by omega
  have c0 : 1 ≤ (x + 730119) / 366 + 1 := by omega
  obtain ⟨k, hk⟩ : ∃ k : Nat, (x + 730119) / 366 + 1 + (k : Int) = y := ⟨(y - ((x + 730119) / 366 + 1)).toNat, by omega⟩
  simp [d_year_of, k_year_of, g_ZERO, q_div]
  rw [while_go (fun i => [.val (.int x), .val (.int (x + 730119)), .val (.int ((x + 730119) / 366 + 1 + i))]) k (by simp) (by rw [fuel_G]; omega)]
  · simp [hk]
  · intro j hj
    have q := bef_le (y := (x + 730119) / 366 + 1 + j + 1) (z := y) (by omega)
    have q2 : bef ((x + 730119) / 366 + 1 + j + 1) ≤ x + 730119 := by omega
    simp [f_before_year, before_year_ok, q2]
    omega
  · simp [f_before_year, before_year_ok, hk]
    omega
theorem date_of_ok (n : Nat) {y m d : Int} (S : Store) (h : IsDate y m d) : Dx.run (G (n + 2)) d_date_of [.int (dayN y m d)] S = .ok (.tup [.int y, .int m, .int d]) S := by
  rw [run_d rfl]
  have hr := h.range
  have hy := h.year
  have yo := year_of_ok n S h.y1 h.y2 hy.1 hy.2
  obtain ⟨k, hk⟩ : ∃ k : Nat, (k : Int) + 1 = m := ⟨(m - 1).toNat, by have := h.m1; omega⟩
  have hk2 : (m - 1).toNat = k := by omega
  have hl : dayN y m d + 730119 - bef y = cum y k + d - 1 := by unfold dayN; rw [hk2]; omega
  simp [d_date_of, k_date_of, g_FIRST_DAY, g_LAST_DAY, g_ZERO, f_year_of, f_before_year, before_year_ok, yo, hr.1, hr.2, hl]
  rw [while_go (fun i => [.val (.int (dayN y m d)), .val (.int y), .val (.int (cum y k + d - 1 - cum y i)), .val (.int (i + 1))]) k (by simp [cum]) (by rw [fuel_G]; have := h.m2; omega)]
  · simp [hk]
    omega
  · intro j hj
    have q1 : 1 ≤ (j : Int) + 1 := by omega
    have q2 : (j : Int) + 1 ≤ 12 := by have := h.m2; omega
    have q3 : mlen y ((j : Int) + 1) ≤ cum y k + d - 1 - cum y j := by
      have e1 := cum_mono y (j := j + 1) (k := k) (by omega)
      rw [cum_succ] at e1
      have := h.d1
      omega
    simp [f_month_length, month_length_ok, h.y1, h.y2, q1, q2, q3, cum_succ]
    omega
  · have q2 : (k : Int) + 1 ≤ 12 := by have := h.m2; omega
    have q1 : 1 ≤ (k : Int) + 1 := by omega
    simp [f_month_length, month_length_ok, h.y1, h.y2, q1, q2]
    have := h.d2
    rw [hk]
    omega
/-! the law's draws -/
def cellN (ns : List Int) (k : Int) : Int := if ns = [] then 0 else ns.getD (k % ns.length).toNat 0
def mixA (ns : List Int) (k : Int) : Int := (cellN ns k + 104729 * (k + 1)) % 4294967291
def mixB (ns : List Int) (k : Int) : Int := mixA ns k ^ 5 % 4294967279
def mixN (ns : List Int) (k : Int) : Int := (mixB ns k / 64 * 69621 + mixB ns k) % 4294967231
theorem mixN_lo (ns : List Int) (k : Int) : 0 ≤ mixN ns k := Int.emod_nonneg _ (by decide)
theorem mixN_hi (ns : List Int) (k : Int) : mixN ns k < 4294967231 := Int.emod_lt_of_pos _ (by decide)
theorem f__law_cell (n : Nat) : (G (n + 1)).fn "_law_cell" = some (Dx.run (G n) d__law_cell) := rfl
theorem f__law_mix (n : Nat) : (G (n + 1)).fn "_law_mix" = some (Dx.run (G n) d__law_mix) := rfl
theorem cell_ok (n : Nat) (ns : List Int) (k : Int) (S : Store) : Dx.run (G n) d__law_cell [.scr ns, .int k] S = .ok (.int (cellN ns k)) S := by
  rw [run_d rfl]
  by_cases h : ns = []
  · simp [d__law_cell, k__law_cell, h, cellN]
  · have hl : 0 < ns.length := List.length_pos_iff.mpr h
    have he : ns.isEmpty = false := by simpa using h
    have h1 : 0 ≤ k % (ns.length : Int) := Int.emod_nonneg _ (by omega)
    have h2 : k % (ns.length : Int) < ns.length := Int.emod_lt_of_pos _ (by omega)
    have h3 : (k % (ns.length : Int)).toNat < ns.length := by omega
    have h4 : atI ns (k % (ns.length : Int)) = some (cellN ns k) := by
      rw [at_pos h1 h2, cellN, if_neg h, List.getD_eq_getElem?_getD, List.getElem?_eq_getElem h3]
      rfl
    have h5 : (0 : Int) < ns.length := by omega
    simp [d__law_cell, k__law_cell, he, q_mod, hl, h4]
theorem mix_ok (n : Nat) (ns : List Int) (k : Int) (S : Store) : Dx.run (G (n + 1)) d__law_mix [.scr ns, .int k] S = .ok (.int (mixN ns k)) S := by
  rw [run_d rfl]
  have a1 : 0 ≤ mixA ns k := Int.emod_nonneg _ (by decide)
  have a2 : mixA ns k < 4294967291 := Int.emod_lt_of_pos _ (by decide)
  have a3 : (mixA ns k).natAbs < 18446744073709551616 := by omega
  have e1 : (cellN ns k + 104729 * (k + 1)) % 4294967291 = mixA ns k := rfl
  have e2 : mixA ns k ^ 5 % 4294967279 = mixB ns k := rfl
  simp [d__law_mix, k__law_mix, f__law_cell, cell_ok, q_mul, q_mod, e1, q_pow, a3, e2, q_div]
  rfl
/-! the law's own days -/
theorem f__law_length (n : Nat) : (G (n + 1)).fn "_law_length" = some (Dx.run (G n) d__law_length) := rfl
theorem f__law_new_year (n : Nat) : (G (n + 1)).fn "_law_new_year" = some (Dx.run (G n) d__law_new_year) := rfl
theorem f__law_day (n : Nat) : (G (n + 1)).fn "_law_day" = some (Dx.run (G n) d__law_day) := rfl
theorem law_length_ok (n : Nat) {y m : Int} (S : Store) (h3 : 1 ≤ m) (h4 : m ≤ 12) : Dx.run (G n) d__law_length [.int y, .int m] S = .ok (.int (mlen y m)) S := by
  rw [run_d rfl]
  have lp := leap_iff y
  rcases m_cases h3 h4 with rfl | rfl | rfl | rfl | rfl | rfl | rfl | rfl | rfl | rfl | rfl | rfl
  case inr.inl =>
    have e : (decide (y % 400 = 0) || (decide (y % 4 = 0) && decide (0 < y % 100))) = leap y := by
      rw [Bool.eq_iff_iff, lp]
      simp
      omega
    simp [d__law_length, k__law_length, q_mod, e, mlen]
    cases leap y <;> simp
  all_goals simp [d__law_length, k__law_length, q_mod, mlen]
theorem law_new_year_ok (n : Nat) (y : Int) (S : Store) : Dx.run (G n) d__law_new_year [.int y] S = .ok (.int (bef y - 730119)) S := by
  rw [run_d rfl]
  simp [d__law_new_year, k__law_new_year, q_mod, q_div, q_mul]
  rfl
theorem cum_sum (y : Int) (k : Nat) : ((List.range k).map fun (j : Nat) => mlen y ((j : Int) + 1)).sum = cum y k := by
  induction k with
  | zero => rfl
  | succ k ih =>
    rw [List.range_succ, List.map_append, List.sum_append, ih]
    simp [cum]
theorem law_day_ok (n : Nat) {y m d : Int} (S : Store) (h1 : 1 ≤ m) (h2 : m ≤ 12) : Dx.run (G (n + 1)) d__law_day [.int y, .int m, .int d] S = .ok (.int (dayN y m d)) S := by
  rw [run_d rfl]
  have r : rng [.int 1, .int m] = some (upto 1 1 (m - 1).toNat) := rng_2 (by omega)
  simp [d__law_day, k__law_day, f__law_new_year, law_new_year_ok, r]
  rw [lcW_map (fun w => match w with | .int j => .int (mlen y j) | w => w) (by rw [upto_len]; exact Nat.le_trans (m := 12) (by omega) (by decide))]
  · have e : (upto 1 1 (m.toNat - 1)).map (fun w => match w with | .int j => Va.int (mlen y j) | w => w) = ((List.range (m.toNat - 1)).map fun (j : Nat) => mlen y ((j : Int) + 1)).map Va.int := by
      unfold upto
      rw [List.map_map, List.map_map]
      refine List.map_congr_left fun j _ => ?_
      simp [Int.add_comm]
    simp [e, p_sum, -List.map_map]
    rw [cum_sum]
    unfold dayN
    have : (m - 1).toNat = m.toNat - 1 := by omega
    rw [this]
    omega
  · intro w hw
    obtain ⟨j, hj, rfl⟩ := upto_mem hw
    refine ⟨_, rfl, ?_⟩
    have q1 : 1 ≤ 1 + (j : Int) := by omega
    have q2 : 1 + (j : Int) ≤ 12 := by omega
    simp [wipeE, f__law_length, law_length_ok, q1, q2]
end Wk50
end
section
namespace Wk50
open PySem PySem.Spec PyProof.Rows L2 Mi
open TL
/-! words: numbers, times, dates as signs -/
def d2 (n : Nat) : List Nat := [48 + n / 10, 48 + n % 10]
def d4 (n : Nat) : List Nat := [48 + n / 1000, 48 + n / 100 % 10, 48 + n / 10 % 10, 48 + n % 10]
def ck (l : List Nat) : Bool := l.all fun x => decide (x < 1114112)
theorem i2 : ∀ n < 100, pr .int [.str (d2 n)] = some (.int (n : Int)) := by decide +kernel
theorem i4 : ∀ n < 100, pr .int [.str (d4 (2000 + n))] = some (.int ((2000 + n : Nat) : Int)) := by decide +kernel
theorem iL : ∀ n < 401, pr .int [.str (numL n)] = some (.int (n : Int)) := by decide +kernel
theorem p2 : ∀ n < 100, padV (.str (numL n)) (.int 2) (.str [48]) = some (.str (d2 n)) := by decide +kernel
theorem p4 : ∀ n < 100, padV (.str (numL (2000 + n))) (.int 4) (.str [48]) = some (.str (d4 (2000 + n))) := by decide +kernel
theorem s2 : ∀ n < 100, vSl (some (-2)) none (.str (48 :: numL n)) = some (.str (d2 n)) := by decide +kernel
theorem s4 : ∀ n < 100, vSl (some (-4)) none (.str (48 :: 48 :: 48 :: numL (2000 + n))) = some (.str (d4 (2000 + n))) := by decide +kernel
theorem nL_len : ∀ n < 401, 1 ≤ (numL n).length ∧ (numL n).length ≤ 5 := by decide +kernel
theorem nL_hd : ∀ n < 401, 1 ≤ n → vIx (.str (numL n)) (.int 0) ≠ some (.str [48]) ∧ ∃ c < 58, vIx (.str (numL n)) (.int 0) = some (.str [c]) := by decide +kernel
theorem sV_col : sV ":" = .str [58] := by decide
theorem sV_min : sV "-" = .str [45] := by decide
theorem sV_0 : sV "0" = .str [48] := by decide
theorem sV_000 : sV "000" = .str [48, 48, 48] := by decide
theorem sV_e : sV "" = .str [] := by decide
theorem sV_sp : sV " " = .str [32] := by decide
theorem sV_2000 : sV "2000-" = .str [50, 48, 48, 48, 45] := by decide
def FIG : List Nat := "0123456789".toList.map Char.toNat
theorem sV_FIG : sV "0123456789" = .str FIG := rfl
def isD (c : Nat) : Bool := decide (c ∈ FIG)
theorem isD_of : ∀ k < 10, isD (48 + k) = true := by decide
theorem isD_d {n : Nat} : isD (48 + n % 10) = true := isD_of _ (Nat.mod_lt _ (by omega))
theorem d2_D {n : Nat} (h : n < 100) : (d2 n).all isD = true := by
  simp [d2, isD_of (n / 10) (by omega), isD_d]
theorem d4_D {n : Nat} (h : n < 10000) : (d4 n).all isD = true := by
  simp [d4, isD_of (n / 1000) (by omega), isD_d]
theorem nL_D : ∀ n < 401, (numL n).all isD = true := by decide +kernel
theorem le_line {n : Nat} (h : n ≤ 1000) : n ≤ sizeLine := Nat.le_trans h (by decide)
/-- words as signs -/
def wv (s : String) : List Nat := s.toList.map Char.toNat
theorem wvV (s : String) : sV s = .str (wv s) := rfl
def tmT (t : Nat) : List Nat := d2 (t / 60) ++ 58 :: d2 (t % 60)
def dtT (y m d : Nat) : List Nat := d4 y ++ 45 :: (d2 m ++ 45 :: d2 d)
def mdT (m d : Nat) : List Nat := d2 m ++ 45 :: d2 d
def wdT (k : Nat) : List Nat := wv (["mo", "tu", "we", "th", "fr", "sa", "su"].getD k "")
def ntT (k : Nat) : List Nat := wv (["1st", "2nd", "3rd", "4th", "last"].getD k "")
theorem q_addS {x y : List Nat} (h : x.length + y.length ≤ 100000) : b2 .add (.str x) (.str y) = some (.str (x ++ y)) := by
  show (iAdd (.str x) (.str y)).or ((lAdd (.str x) (.str y)).or ((tAddV (.str x) (.str y)).or (sAdd (.str x) (.str y)))) = _
  have : sAdd (.str x) (.str y) = some (.str (x ++ y)) := if_pos (Nat.le_trans h (by decide))
  rw [this]
  rfl
theorem items_str (b : List Nat) : items (.str b) = some (b.map fun c => .str [c]) := rfl
theorem q_inS {c : Nat} {l : List Nat} : co .in_ (.str [c]) (.str l) = some (.bl (decide (c ∈ l))) := rfl
theorem len_ok {t : List Nat} (h : t.length ≤ 60000) : pr .len [.str t] = some (.int t.length) := p_len_str (Nat.le_trans h (by decide))
theorem eqS {x y : List Nat} (h1 : ck x = true) (h2 : ck y = true) : co .eq (.str x) (.str y) = some (.bl (decide (x = y))) := by
  rw [q_eqV (by simpa [ck] using h1) (by simpa [ck] using h2)]
  simp
theorem neS {x y : List Nat} (h1 : ck x = true) (h2 : ck y = true) : co .ne (.str x) (.str y) = some (.bl (!decide (x = y))) := by
  rw [q_neV (by simpa [ck] using h1) (by simpa [ck] using h2)]
  simp
theorem all_bl {α : Type} {l : List α} (b : α → Bool) : pr .all [.lst (l.map fun x => .bl (b x))] = some (.bl (l.all b)) := by
  have : (l.map fun x => Va.bl (b x)) = (l.map b).map Va.bl := by rw [List.map_map]; rfl
  rw [this, p_all]
  simp
/-! the single words -/
theorem g_FIGURES (n : Nat) : (G n).glo "FIGURES" = some (.str FIG) := by cases n <;> rfl
theorem g_WEEKDAYS (n : Nat) : (G n).glo "WEEKDAYS" = some (.tup [sV "mo", sV "tu", sV "we", sV "th", sV "fr", sV "sa", sV "su"]) := by cases n <;> rfl
theorem g_NTHS (n : Nat) : (G n).glo "NTHS" = some (.tup [sV "1st", sV "2nd", sV "3rd", sV "4th", sV "last"]) := by cases n <;> rfl
theorem g_UNITS (n : Nat) : (G n).glo "UNITS" = some (.tup [sV "days", sV "weeks", sV "months", sV "years"]) := by cases n <;> rfl
theorem g_PLAIN (n : Nat) : (G n).glo "PLAIN" = some (.tup [sV "daily", sV "weekly", sV "monthly", sV "yearly"]) := by cases n <;> rfl
theorem f_is_figures (n : Nat) : (G (n + 1)).fn "is_figures" = some (Dx.run (G n) d_is_figures) := rfl
theorem f_time_of (n : Nat) : (G (n + 1)).fn "time_of" = some (Dx.run (G n) d_time_of) := rfl
theorem f_date_in (n : Nat) : (G (n + 1)).fn "date_in" = some (Dx.run (G n) d_date_in) := rfl
theorem f_month_day_in (n : Nat) : (G (n + 1)).fn "month_day_in" = some (Dx.run (G n) d_month_day_in) := rfl
theorem f_weekday_in (n : Nat) : (G (n + 1)).fn "weekday_in" = some (Dx.run (G n) d_weekday_in) := rfl
theorem f_month_part (n : Nat) : (G (n + 1)).fn "month_part" = some (Dx.run (G n) d_month_part) := rfl
def figB (l : List Nat) : Bool := decide (1 ≤ l.length) && (decide (l.length ≤ 5) && l.all isD)
theorem is_figures_ok (n : Nat) {l : List Nat} (S : Store) (h : l.length ≤ 1000) : Dx.run (G n) d_is_figures [.str l] S = .ok (.bl (figB l)) S := by
  rw [run_d rfl]
  simp [d_is_figures, k_is_figures, len_ok (Nat.le_trans h (by decide)), items_str]
  have lc := lcW_onY (γ := G n) (tg := .one 1) (vs := [1]) (e := .cmp .in_ (.var 1) (.glo "FIGURES")) (env := [.val (.str l), .no]) (S := S) (xs := l) (fun c : Nat => Va.str [c]) (fun c => .bl (isD c)) (le_line h) fun c _ => ⟨_, rfl, by simp [wipeE, g_FIGURES, q_inS, isD]⟩
  unfold figB
  by_cases h1 : 1 ≤ l.length
  · by_cases h2 : l.length ≤ 5
    · have h2' : (l.length : Int) ≤ 5 := by omega
      have h1' : (1 : Int) ≤ l.length := by omega
      simp [h1, h2, h1', h2', lc, all_bl]
    · have h2' : ¬ (l.length : Int) ≤ 5 := by omega
      have h1' : (1 : Int) ≤ l.length := by omega
      simp [h1, h2, h1', h2']
  · have h1' : ¬ (1 : Int) ≤ l.length := by omega
    simp [h1, h1']
theorem figB_2 {n : Nat} (h : n < 100) : figB (d2 n) = true := by
  have := d2_D h
  simp [figB, d2] at this ⊢
  exact this
end Wk50
end
section
namespace Wk50
open PySem PySem.Spec PyProof.Rows L2 Mi
open TL
/-! what single words are -/
section
variable {a b c d e f g h i j : Nat}
theorem l5 : pr .len [.str [a, b, c, d, e]] = some (.int 5) := rfl
theorem l10 : pr .len [.str [a, b, c, d, e, f, g, h, i, j]] = some (.int 10) := rfl
theorem x5_2 : vIx (.str [a, b, c, d, e]) (.int 2) = some (.str [c]) := rfl
theorem x10_4 : vIx (.str [a, b, c, d, e, f, g, h, i, j]) (.int 4) = some (.str [e]) := rfl
theorem x10_7 : vIx (.str [a, b, c, d, e, f, g, h, i, j]) (.int 7) = some (.str [h]) := rfl
theorem y5_2 : vSl none (some 2) (.str [a, b, c, d, e]) = some (.str [a, b]) := rfl
theorem y5_3 : vSl (some 3) none (.str [a, b, c, d, e]) = some (.str [d, e]) := rfl
theorem y10_4 : vSl none (some 4) (.str [a, b, c, d, e, f, g, h, i, j]) = some (.str [a, b, c, d]) := rfl
theorem y10_5 : vSl (some 5) (some 7) (.str [a, b, c, d, e, f, g, h, i, j]) = some (.str [f, g]) := rfl
theorem y10_8 : vSl (some 8) none (.str [a, b, c, d, e, f, g, h, i, j]) = some (.str [i, j]) := rfl
end
theorem ne58 : co .ne (.str [58]) (.str [58]) = some (.bl false) := by decide +kernel
theorem ne45 : co .ne (.str [45]) (.str [45]) = some (.bl false) := by decide +kernel
theorem time_gen (n : Nat) {a b c d : Nat} {h m : Int} (S : Store) (f1 : figB [a, b] = true) (f2 : figB [c, d] = true) (i1 : pr .int [.str [a, b]] = some (.int h)) (i2 : pr .int [.str [c, d]] = some (.int m)) (hh : h ≤ 23) (hm : m ≤ 59) : Dx.run (G (n + 1)) d_time_of [.str [a, b, 58, c, d]] S = .ok (.int (60 * h + m)) S := by
  have q1 := is_figures_ok n (l := [a, b]) S (by simp)
  have q2 := is_figures_ok n (l := [c, d]) S (by simp)
  rw [f1] at q1
  rw [f2] at q2
  have h1 : ¬ 23 < h := by omega
  have h2 : ¬ 59 < m := by omega
  rw [run_d rfl]
  simp [d_time_of, k_time_of, l5, x5_2, y5_2, y5_3, sV_col, ne58, isAbs, f_is_figures, q1, q2, i1, i2, h1, h2, q_mul]
theorem time_ok (n : Nat) {t : Nat} (S : Store) (ht : t < 1440) : Dx.run (G (n + 1)) d_time_of [.str (tmT t)] S = .ok (.int (t : Int)) S := by
  have q := time_gen n (a := 48 + t / 60 / 10) (b := 48 + t / 60 % 10) (c := 48 + t % 60 / 10) (d := 48 + t % 60 % 10) S (figB_2 (n := t / 60) (by omega)) (figB_2 (n := t % 60) (by omega)) (i2 (t / 60) (by omega)) (i2 (t % 60) (by omega)) (by omega) (by omega)
  have e : 60 * ((t / 60 : Nat) : Int) + ((t % 60 : Nat) : Int) = (t : Int) := by omega
  rw [e] at q
  exact q
theorem time_no (n : Nat) {w : List Nat} (S : Store) (h : w.length ≠ 5) (hl : w.length ≤ 1000) : Dx.run (G (n + 1)) d_time_of [.str w] S = .ok .non S := by
  have h' : ¬ (w.length : Int) = 5 := by omega
  rw [run_d rfl]
  simp [d_time_of, k_time_of, len_ok (Nat.le_trans hl (by decide)), h']
theorem figB_4 {n : Nat} (h : n < 100) : figB (d4 (2000 + n)) = true := by
  have := d4_D (n := 2000 + n) (by omega)
  simp [figB, d4] at this ⊢
  exact this
theorem date_gen (n : Nat) {y1 y2 y3 y4 m1 m2 e1 e2 : Nat} {y m d : Int} (S : Store) (f1 : figB [y1, y2, y3, y4] = true) (f2 : figB [m1, m2] = true) (f3 : figB [e1, e2] = true) (i1 : pr .int [.str [y1, y2, y3, y4]] = some (.int y)) (i2 : pr .int [.str [m1, m2]] = some (.int m)) (i3 : pr .int [.str [e1, e2]] = some (.int d)) (i : IsDate y m d) :
    Dx.run (G (n + 3)) d_date_in [.str [y1, y2, y3, y4, 45, m1, m2, 45, e1, e2]] S = .ok (.int (dayN y m d)) S := by
  have q1 := is_figures_ok (n + 2) (l := [y1, y2, y3, y4]) S (by simp)
  have q2 := is_figures_ok (n + 2) (l := [m1, m2]) S (by simp)
  have q3 := is_figures_ok (n + 2) (l := [e1, e2]) S (by simp)
  rw [f1] at q1
  rw [f2] at q2
  rw [f3] at q3
  rw [run_d rfl]
  simp [d_date_in, k_date_in, l10, x10_4, x10_7, y10_4, y10_5, y10_8, sV_min, ne45, isAbs]
  have mp : [Va.str [y1, y2, y3, y4], .str [m1, m2], .str [e1, e2]] = [[y1, y2, y3, y4], [m1, m2], [e1, e2]].map Va.str := rfl
  rw [mp, lcW_onY Va.str (fun _ => .bl true) (le_line (by simp)) fun l hl => ⟨_, rfl, by
    simp at hl
    rcases hl with rfl | rfl | rfl
    · simp [wipeE, f_is_figures, q1]
    · simp [wipeE, f_is_figures, q2]
    · simp [wipeE, f_is_figures, q3]⟩]
  have al : pr .all [.lst ([[y1, y2, y3, y4], [m1, m2], [e1, e2]].map fun _ => Va.bl true)] = some (.bl true) := rfl
  rw [← mp]
  simp [-List.map_cons, al, i1, i2, i3, f_day_of, day_of_ok n S i]
theorem date_ok (n : Nat) {y m d : Nat} (S : Store) (hy : y < 100) (i : IsDate ((2000 + y : Nat) : Int) (m : Int) (d : Int)) : Dx.run (G (n + 3)) d_date_in [.str (dtT (2000 + y) m d)] S = .ok (.int (dayN ((2000 + y : Nat) : Int) m d)) S := by
  have hm : m < 100 := by
    have := i.m2
    omega
  have hd : d < 100 := by
    have := i.d2
    have := mlen_hi ((2000 + y : Nat) : Int) (m : Int)
    omega
  exact date_gen n S (figB_4 hy) (figB_2 hm) (figB_2 hd) (i4 y hy) (i2 m hm) (i2 d hd) i
theorem date_no (n : Nat) {w : List Nat} (S : Store) (h : w.length ≠ 10) (hl : w.length ≤ 1000) : Dx.run (G n) d_date_in [.str w] S = .ok .non S := by
  have h' : ¬ (w.length : Int) = 10 := by omega
  rw [run_d rfl]
  simp [d_date_in, k_date_in, len_ok (Nat.le_trans hl (by decide)), h']
theorem md_ok (n : Nat) {m d : Nat} (S : Store) (i : IsDate 2000 (m : Int) (d : Int)) : Dx.run (G (n + 4)) d_month_day_in [.str (mdT m d)] S = .ok (.tup [.int (m : Int), .int (d : Int)]) S := by
  have hm : m < 100 := by
    have := i.m2
    omega
  have hd : d < 100 := by
    have := i.d2
    have := mlen_hi 2000 (m : Int)
    omega
  have q := date_ok n (y := 0) (m := m) (d := d) S (by decide) i
  obtain ⟨a, b, ea⟩ : ∃ a b, d2 m = [a, b] := ⟨_, _, rfl⟩
  obtain ⟨c, e, ec⟩ : ∃ a b, d2 d = [a, b] := ⟨_, _, rfl⟩
  have im := i2 m hm
  have id' := i2 d hd
  have t1 : dtT (2000 + 0) m d = [50, 48, 48, 48, 45, a, b, 45, c, e] := by
    unfold dtT
    rw [ea, ec]
    rfl
  have t2 : mdT m d = [a, b, 45, c, e] := by
    unfold mdT
    rw [ea, ec]
    rfl
  rw [t1] at q
  rw [ea] at im
  rw [ec] at id'
  have ad : b2 .add (.str [50, 48, 48, 48, 45]) (.str [a, b, 45, c, e]) = some (.str [50, 48, 48, 48, 45, a, b, 45, c, e]) := q_addS (by simp)
  rw [t2, run_d rfl]
  simp [d_month_day_in, k_month_day_in, l5, sV_2000, ad, f_date_in, q, y5_2, y5_3, isAbs, im, id']
theorem md_no (n : Nat) {w : List Nat} (S : Store) (h : w.length ≠ 5) (hl : w.length ≤ 1000) : Dx.run (G n) d_month_day_in [.str w] S = .ok .non S := by
  have h' : ¬ (w.length : Int) = 5 := by omega
  rw [run_d rfl]
  simp [d_month_day_in, k_month_day_in, len_ok (Nat.le_trans hl (by decide)), h']
theorem wd_facts : ∀ k < 7, co .in_ (.str (wdT k)) (.tup [sV "mo", sV "tu", sV "we", sV "th", sV "fr", sV "sa", sV "su"]) = some (.bl true) ∧ tixV [sV "mo", sV "tu", sV "we", sV "th", sV "fr", sV "sa", sV "su"] (.str (wdT k)) = some (.int (k : Int)) := by decide +kernel
theorem weekday_ok (n : Nat) {k : Nat} (S : Store) (h : k < 7) : Dx.run (G n) d_weekday_in [.str (wdT k)] S = .ok (.int (k : Int)) S := by
  obtain ⟨h1, h2⟩ := wd_facts k h
  rw [run_d rfl]
  simp only [d_weekday_in, k_weekday_in]
  simp [g_WEEKDAYS, -q_in_tup, h1, h2]
theorem weekday_no (n : Nat) {w : List Nat} (S : Store) (h : co .in_ (.str w) (.tup [sV "mo", sV "tu", sV "we", sV "th", sV "fr", sV "sa", sV "su"]) = some (.bl false)) : Dx.run (G n) d_weekday_in [.str w] S = .ok .non S := by
  rw [run_d rfl]
  simp only [d_weekday_in, k_weekday_in]
  simp [g_WEEKDAYS, -q_in_tup, h]
theorem nl_facts : ∀ k < 401, 1 ≤ k → figB (numL k) = true ∧ ∃ c < 58, vIx (.str (numL k)) (.int 0) = some (.str [c]) ∧ co .eq (.str [c]) (.str [48]) = some (.bl false) := by decide +kernel
theorem month_part_ok (n : Nat) {k : Nat} (S : Store) (h1 : 1 ≤ k) (h2 : k ≤ 31) : Dx.run (G (n + 1)) d_month_part [.str (numL k)] S = .ok (.int (k : Int)) S := by
  obtain ⟨f, c, _, hx, he⟩ := nl_facts k (by omega) h1
  have q := is_figures_ok n (l := numL k) S (Nat.le_trans (nL_len k (by omega)).2 (by decide))
  rw [f] at q
  have a1 : (1 : Int) ≤ k := by omega
  have a2 : (k : Int) ≤ 31 := by omega
  rw [run_d rfl]
  simp [d_month_part, k_month_part, f_is_figures, q, hx, sV_0, he, iL k (by omega), a1, a2]
theorem month_part_no (n : Nat) {w : List Nat} (S : Store) (h : figB w = false) (hl : w.length ≤ 1000) : Dx.run (G (n + 1)) d_month_part [.str w] S = .ok .non S := by
  have q := is_figures_ok n (l := w) S hl
  rw [h] at q
  rw [run_d rfl]
  simp [d_month_part, k_month_part, f_is_figures, q]
end Wk50
end
section
namespace Wk50
open PySem PySem.Spec PyProof.Rows L2 Mi
open TL
/-! the words of a text, and how many were read -/
def wdO (ws : List (List Nat)) (k : Nat) : SO := .ins "Words" [("words", .lst (ws.map .str)), ("at", .int (k : Int))]
def st (S : Store) (ws : List (List Nat)) (k : Nat) : Store := S ++ [wdO ws k]
def see (ws : List (List Nat)) (k : Nat) : List Nat := ws.getD k []
theorem m_refuse (n : Nat) : (G (n + 1)).meth "Words" "refuse" = some (Dx.run (G n) d_Words_refuse) := rfl
theorem m_sees (n : Nat) : (G (n + 1)).meth "Words" "sees" = some (Dx.run (G n) d_Words_sees) := rfl
theorem m_next (n : Nat) : (G (n + 1)).meth "Words" "next_word" = some (Dx.run (G n) d_Words_next_word) := rfl
theorem m_wants (n : Nat) : (G (n + 1)).meth "Words" "wants" = some (Dx.run (G n) d_Words_wants) := rfl
theorem m_number (n : Nat) : (G (n + 1)).meth "Words" "number" = some (Dx.run (G n) d_Words_number) := rfl
theorem i_Words (n : Nat) : (G (n + 1)).init "Words" = some (Dx.run (G n) d_Words_init) := rfl
theorem f_read_some (n : Nat) : (G (n + 1)).fn "read_some" = some (Dx.run (G n) d_read_some) := rfl
theorem f_read_month (n : Nat) : (G (n + 1)).fn "read_month" = some (Dx.run (G n) d_read_month) := rfl
theorem f_read_kind (n : Nat) : (G (n + 1)).fn "read_kind_words" = some (Dx.run (G n) d_read_kind_words) := rfl
theorem f_read_on (n : Nat) : (G (n + 1)).fn "read_on" = some (Dx.run (G n) d_read_on) := rfl
theorem f_read_date (n : Nat) : (G (n + 1)).fn "read_date" = some (Dx.run (G n) d_read_date) := rfl
theorem f_read_rule (n : Nat) : (G (n + 1)).fn "read_rule" = some (Dx.run (G n) d_read_rule) := rfl
theorem f_read (n : Nat) : (G (n + 1)).fn "read" = some (Dx.run (G n) d_read) := rfl
theorem fl_W (n : Nat) : (G n).fld "Words" "words" = true ∧ (G n).fld "Words" "at" = true := by
  cases n <;> exact ⟨rfl, rfl⟩
section
variable {S : Store} {ws : List (List Nat)} {k : Nat}
theorem st_at : (st S ws k)[S.length]? = some (wdO ws k) := by simp [st]
theorem fldR {S : Store} {j : Nat} {f : String} {cl : String} {fs : List (String × Va)} {w : Va} (h : S[j]? = some (.ins cl fs)) (hw : fs.lookup f = some w) : fldOf S (.ref j) f = some w := by
  simp only [fldOf, h]
  exact hw
@[simp] theorem fW : fldOf (st S ws k) (.ref S.length) "words" = some (.lst (ws.map .str)) := fldR st_at rfl
@[simp] theorem fA : fldOf (st S ws k) (.ref S.length) "at" = some (.int (k : Int)) := fldR st_at rfl
theorem oW {m : String} (hm : ([("words", ()), ("at", ())].lookup m).isNone = true) : isObj (st S ws k) (.ref S.length) "Words" m = true := by
  simp only [Mi.isObj, st_at]
  show (decide ("Words" = "Words") && (List.lookup m [("words", Va.lst (ws.map .str)), ("at", Va.int (k : Int))]).isNone) = true
  have : (List.lookup m [("words", Va.lst (ws.map .str)), ("at", Va.int (k : Int))]).isNone = ([("words", ()), ("at", ())].lookup m).isNone := by
    simp only [List.lookup]
    cases m == "words" <;> cases m == "at" <;> rfl
  rw [this, hm]
  rfl
@[simp] theorem o_sees : isObj (st S ws k) (.ref S.length) "Words" "sees" = true := oW (by decide)
@[simp] theorem o_next : isObj (st S ws k) (.ref S.length) "Words" "next_word" = true := oW (by decide)
@[simp] theorem o_wants : isObj (st S ws k) (.ref S.length) "Words" "wants" = true := oW (by decide)
@[simp] theorem o_number : isObj (st S ws k) (.ref S.length) "Words" "number" = true := oW (by decide)
@[simp] theorem o_refuse : isObj (st S ws k) (.ref S.length) "Words" "refuse" = true := oW (by decide)
theorem sA (n : Nat) : setFld (G n).fld (st S ws k) (.ref S.length) (.int ((k : Int) + 1)) "at" = some (st S ws (k + 1)) := by
  have h := (fl_W n).2
  simp only [setFld, st_at, wdO]
  rw [if_pos (by simp [h])]
  simp [st, wdO, putS]
theorem sees_ok (n : Nat) (h : k ≤ ws.length) : Dx.run (G n) d_Words_sees [.ref S.length] (st S ws k) = .ok (.str (see ws k)) (st S ws k) := by
  rw [run_d rfl]
  by_cases c : k = ws.length
  · simp [d_Words_sees, k_Words_sees, c, sV_e, see]
  · have c2 : ¬ ((k : Int) = (ws.length : Int)) := by omega
    have hx : atI (ws.map Va.str) (k : Int) = some (.str (see ws k)) := by
      rw [at_pos (by omega) (by simp; omega)]
      have : k < ws.length := by omega
      simp [see, this]
    simp [d_Words_sees, k_Words_sees, c2, c, hx]
theorem next_ok (n : Nat) (h : k ≤ ws.length) : Dx.run (G (n + 1)) d_Words_next_word [.ref S.length] (st S ws k) = .ok (.str (see ws k)) (st S ws (k + 1)) := by
  rw [run_d rfl]
  simp [d_Words_next_word, k_Words_next_word, m_sees, sees_ok n h, setFM_e (sA (n + 1))]
theorem wants_ok (n : Nat) {w : List Nat} (h : k ≤ ws.length) (hw : see ws k = w) (hc : ck w = true) : Dx.run (G (n + 1)) d_Words_wants [.ref S.length, .str w] (st S ws k) = .ok .non (st S ws (k + 1)) := by
  rw [run_d rfl]
  have e : co .ne (.str w) (.str w) = some (.bl false) := by
    rw [neS hc hc]
    simp
  simp [d_Words_wants, k_Words_wants, m_sees, sees_ok n h, hw, e, setFM_e (sA (n + 1))]
theorem number_ok (n : Nat) {v : Nat} {lo hi : Int} (h : k ≤ ws.length) (hw : see ws k = numL v) (h1 : 1 ≤ v) (h2 : v < 401) (h3 : lo ≤ (v : Int)) (h4 : (v : Int) ≤ hi) : Dx.run (G (n + 1)) d_Words_number [.ref S.length, .int lo, .int hi] (st S ws k) = .ok (.int (v : Int)) (st S ws (k + 1)) := by
  obtain ⟨f, c, _, hx, he⟩ := nl_facts v h2 h1
  have q := is_figures_ok n (l := numL v) (st S ws k) (Nat.le_trans (nL_len v h2).2 (by decide))
  rw [f] at q
  rw [run_d rfl]
  simp [d_Words_number, k_Words_number, m_sees, sees_ok n h, hw, f_is_figures, q, hx, sV_0, he, iL v h2, h3, h4, setFM_e (sA (n + 1))]
end
def rsI (S : Store) (ws : List (List Nat)) (k : Nat) (most : Int) (nm : String) (ps : List Va) (m : Nat) (env : Evn) (V : Store) : Prop := ∃ j : Nat, j ≤ ps.length ∧ m = ps.length - j ∧ V = st S ws (k + j) ∧ env = [.val (.ref S.length), .val (.fn nm), .val (.int most), .own (ps.take j), .val (ps.getD j .non)]
theorem read_some_ok (n : Nat) (S : Store) {ws : List (List Nat)} {k : Nat} {most : Int} {nm : String} {g : List Va → Store → Res Va} {ps : List Va} (hc : ["date_in", "month_day_in", "month_part", "time_of", "weekday_in"].contains nm = true) (hf : (G (n + 1)).fn nm = some g) (hne : ps ≠ []) (hm : (ps.length : Int) ≤ most) (hk : k + ps.length ≤ ws.length) (hw : ws.length ≤ 1000)
    (hG : ∀ j ≤ ps.length, ∀ V, g [.str (see ws (k + j))] V = .ok (ps.getD j .non) V) (h1 : ∀ j < ps.length, co .is (ps.getD j .non) .non = some (.bl false) ∧ co .isnot (ps.getD j .non) .non = some (.bl true)) (h2 : ∀ j, j + 1 < ps.length → co .le (ps.getD (j + 1) .non) (ps.getD j .non) = some (.bl false)) :
    Dx.run (G (n + 1)) d_read_some [.ref S.length, .fn nm, .int most] (st S ws k) = .ok (.tup ps) (st S ws (k + ps.length)) := by
  have hp : 0 < ps.length := List.length_pos_iff.mpr hne
  have cv : ∀ (s0 s2 s3 s4 : Sl) (V : Store), (ev (G (n + 1)) (.callV ["date_in", "month_day_in", "month_part", "time_of", "weekday_in"] 1 (.acons (.meth "Words" "sees" (.var 0) .anil) .anil))).e [s0, .val (.fn nm), s2, s3, s4] V = callX ((G (n + 1)).fn nm) ((ev (G (n + 1)) (.acons (.meth "Words" "sees" (.var 0) .anil) .anil)).a [s0, .val (.fn nm), s2, s3, s4]) V := fun s0 s2 s3 s4 V => v_callV rfl hc
  rw [hf] at cv
  have g0 := hG 0 (by omega) (st S ws k)
  rw [Nat.add_zero] at g0
  have n0 := (h1 0 hp).1
  rw [run_d rfl]
  simp only [d_read_some, k_read_some]
  simp [cv, m_sees, sees_ok n (S := S) (ws := ws) (k := k) (by omega), g0, n0, -List.getD_eq_getElem?_getD]
  refine while_inv (rsI S ws k most nm ps) (fun q => endK (q.andThen (evK (G (n + 1)) (.seq (.frz 3 (.ret (.prim .tuple (.acons (.var 3) .anil)))) .skip))) = .ok (.tup ps) (st S ws (k + ps.length))) ?_ _ ps.length _ _ (by rw [fuel_G]; omega) (by unfold rsI; exact ⟨0, by omega, rfl, rfl, by simp⟩)
  rintro m env V ⟨j, hj, rfl, rfl, rfl⟩
  by_cases c : j < ps.length
  · right
    obtain ⟨a1, a2⟩ := h1 j c
    obtain ⟨p, hp'⟩ : ∃ p, p = ps.getD j .non := ⟨_, rfl⟩
    have g1 := hG (j + 1) (by omega) (st S ws (k + j + 1))
    rw [← Nat.add_assoc] at g1
    have lz : (ps.take j).length = j := by rw [List.length_take]; omega
    have hz : (ps.take j).length ≤ 16777000 := by omega
    have tk : ps.take (j + 1) = ps.take j ++ [p] := by
      rw [List.take_succ, hp']
      simp [c]
    have jm : ¬ ((j : Int) = most) := by omega
    rw [← hp'] at a1 a2 ⊢
    refine ⟨st S ws (k + j), by simp [a2], ?_⟩
    have fin : Turn (fun env' S' => ∃ m', m' < ps.length - j ∧ rsI S ws k most nm ps m' env' S') (fun q => endK (q.andThen (evK (G (n + 1)) (.seq (.frz 3 (.ret (.prim .tuple (.acons (.var 3) .anil)))) .skip))) = .ok (.tup ps) (st S ws (k + ps.length))) (.nx [.val (.ref S.length), .val (.fn nm), .val (.int most), .own (ps.take j ++ [p]), .val (ps.getD (j + 1) .non)] (st S ws (k + j + 1))) := Turn.nx ⟨ps.length - (j + 1), by omega, by unfold rsI; exact ⟨j + 1, by omega, rfl, by rw [Nat.add_assoc], by rw [tk]⟩⟩
    cases j with
    | zero =>
      have g1' : g [Va.str (see ws (k + 1))] (st S ws (k + 1)) = .ok (ps.getD 1 .non) (st S ws (k + 1)) := g1
      have jm0 : ¬ ((0 : Int) = most) := by simpa using jm
      have ap : ([] : List Va).length ≤ 16777000 := by simp
      simp [jm0, appT_e ap, setFM_e (sA (n + 1)), cv, m_sees, sees_ok n (S := S) (ws := ws) (k := k + 1) (by omega), g1', -List.getD_eq_getElem?_getD]
      exact fin
    | succ i =>
      have l1 : atI (ps.take (i + 1)) (-1) = some (ps.getD i .non) := by
        rw [at_neg (by omega) (by omega), lz]
        have e : ((-1 : Int) + ((i + 1 : Nat) : Int)).toNat = i := by omega
        rw [e]
        have : i < ps.length := by omega
        simp [this]
      have em : (ps.take (i + 1)).isEmpty = false := by
        cases q : ps.take (i + 1) with
        | nil => rw [q] at lz; simp at lz
        | cons _ _ => rfl
      have le := h2 i c
      rw [← hp'] at le
      have e2 : ((k + (i + 1) : Nat) : Int) = ((k + (i + 1) : Nat) : Int) := rfl
      simp only [k_seq, k_ife]
      simp [em, l1, le, lz, jm, -List.getD_eq_getElem?_getD, -Int.natCast_add]
      rw [appT_e hz]
      simp [setFM_e (sA (n + 1)), cv, m_sees, sees_ok n (S := S) (ws := ws) (k := k + (i + 1) + 1) (by omega), g1, -List.getD_eq_getElem?_getD, -Int.natCast_add]
      exact fin
  · left
    have e : j = ps.length := by omega
    subst e
    exact ⟨st S ws (k + ps.length), by simp, by simp⟩
end Wk50
end
section
namespace Wk50
open PySem PySem.Spec PyProof.Rows L2 Mi
open TL
/-! what is left of the words -/
def Dp (ws : List (List Nat)) (k : Nat) (L : List (List Nat)) : Prop := k ≤ ws.length ∧ ws.drop k = L
section
variable {ws : List (List Nat)} {k : Nat} {w : List Nat} {L M : List (List Nat)}
theorem Dp.see (h : Dp ws k L) (j : Nat) : see ws (k + j) = L.getD j [] := by
  rw [← h.2]
  simp [_root_.Wk50.see]
theorem Dp.hd (h : Dp ws k L) : _root_.Wk50.see ws k = L.headD [] := by
  have := h.see 0
  rw [Nat.add_zero] at this
  rw [this]
  cases L <;> rfl
theorem Dp.len (h : Dp ws k L) : k + L.length = ws.length := by
  have := h.1
  rw [← h.2, List.length_drop]
  omega
theorem Dp.next (h : Dp ws k (w :: L)) : Dp ws (k + 1) L := by
  have := h.len
  rw [List.length_cons] at this
  refine ⟨by omega, ?_⟩
  rw [← List.drop_drop, h.2]
  rfl
theorem Dp.app (h : Dp ws k (L ++ M)) : Dp ws (k + L.length) M := by
  have := h.len
  rw [List.length_append] at this
  refine ⟨by omega, ?_⟩
  rw [← List.drop_drop, h.2]
  simp
end
theorem some_at (n : Nat) (S : Store) {α : Type} {ws : List (List Nat)} {k : Nat} {most : Int} {nm : String} {g : List Va → Store → Res Va} (os : List α) (T : α → List Nat) (V : α → Va) {M : List (List Nat)} (hc : ["date_in", "month_day_in", "month_part", "time_of", "weekday_in"].contains nm = true) (hf : (G (n + 1)).fn nm = some g) (hne : os ≠ []) (hm : (os.length : Int) ≤ most) (hw : ws.length ≤ 1000)
    (hD : Dp ws k (os.map T ++ M)) (hg : ∀ a ∈ os, ∀ W, g [.str (T a)] W = .ok (V a) W) (hs : ∀ W, g [.str (M.headD [])] W = .ok .non W) (h1 : ∀ a ∈ os, co .is (V a) .non = some (.bl false) ∧ co .isnot (V a) .non = some (.bl true)) (h2 : os.Pairwise fun a b => co .le (V b) (V a) = some (.bl false)) :
    Dx.run (G (n + 1)) d_read_some [.ref S.length, .fn nm, .int most] (st S ws k) = .ok (.tup (os.map V)) (st S ws (k + os.length)) := by
  have hl := hD.len
  rw [List.length_append, List.length_map] at hl
  have key := read_some_ok n S (ws := ws) (k := k) (most := most) (ps := os.map V) hc hf (by simpa using hne) (by rw [List.length_map]; exact hm) (by rw [List.length_map]; omega) hw (fun j hj W => by
      rw [List.length_map] at hj
      rw [hD.see j]
      by_cases c : j < os.length
      · have e1 : (os.map T ++ M).getD j [] = T os[j] := by
          rw [List.getD_eq_getElem?_getD, List.getElem?_append_left (by rw [List.length_map]; exact c)]
          simp [c]
        have e2 : (os.map V).getD j .non = V os[j] := by simp [c]
        rw [e1, e2]
        exact hg _ (List.getElem_mem c) W
      · have e : j = os.length := by omega
        subst e
        have e1 : (os.map T ++ M).getD os.length [] = M.headD [] := by
          rw [List.getD_eq_getElem?_getD, List.getElem?_append_right (by rw [List.length_map]; omega)]
          cases M <;> simp
        have e2 : (os.map V).getD os.length .non = .non := by simp
        rw [e1, e2]
        exact hs W) (fun j hj => by
      rw [List.length_map] at hj
      have e2 : (os.map V).getD j .non = V os[j] := by simp [hj]
      rw [e2]
      exact h1 _ (List.getElem_mem hj)) (fun j hj => by
      rw [List.length_map] at hj
      have e1 : (os.map V).getD (j + 1) .non = V os[j + 1] := by simp [hj]
      have e2 : (os.map V).getD j .non = V os[j] := by
        have : j < os.length := by omega
        simp [this]
      rw [e1, e2]
      exact List.pairwise_iff_getElem.mp h2 j (j + 1) (by omega) hj (by omega))
  rw [List.length_map] at key
  exact key
/-! rules by value -/
structure Dy where
  y : Nat
  m : Nat
  d : Nat
def Dy.n (x : Dy) : Int := dayN ((2000 + x.y : Nat) : Int) (x.m : Int) (x.d : Int)
def Dy.t (x : Dy) : List Nat := dtT (2000 + x.y) x.m x.d
def Dy.ok (x : Dy) : Prop := x.y < 100 ∧ IsDate ((2000 + x.y : Nat) : Int) (x.m : Int) (x.d : Int)
inductive Kd where
  | days | weeks (os : List Nat) | last | nth (nt wd : Nat) | months (os : List Nat) | years (os : List (Nat × Nat))
def Kd.un : Kd → String
  | .days => "days"
  | .weeks _ => "weeks"
  | .years _ => "years"
  | _ => "months"
def Kd.pl : Kd → String
  | .days => "daily"
  | .weeks _ => "weekly"
  | .years _ => "yearly"
  | _ => "monthly"
def iV (k : Nat) : Va := .int (k : Int)
def pairV (p : Nat × Nat) : Va := .tup [iV p.1, iV p.2]
def Kd.on : Kd → Va
  | .days => .tup []
  | .weeks os => .tup (os.map iV)
  | .last => .tup []
  | .nth nt wd => .tup [iV (nt + 1), iV wd, .int 0]
  | .months os => .tup (os.map iV)
  | .years os => .tup (os.map pairV)
def Kd.ws : Kd → List (List Nat)
  | .days => []
  | .weeks os => wv "on" :: os.map wdT
  | .last => [wv "on", wv "last"]
  | .nth nt wd => [wv "on", ntT nt, wdT wd]
  | .months os => wv "on" :: os.map numL
  | .years os => wv "on" :: os.map fun p => mdT p.1 p.2
def dlt (p q : Nat × Nat) : Prop := p.1 < q.1 ∨ p.1 = q.1 ∧ p.2 < q.2
def Kd.good : Kd → Prop
  | .days => True
  | .weeks os => os ≠ [] ∧ os.Pairwise (· < ·) ∧ (∀ k ∈ os, k < 7) ∧ os.length ≤ 7
  | .last => True
  | .nth nt wd => nt < 5 ∧ wd < 7
  | .months os => os ≠ [] ∧ os.Pairwise (· < ·) ∧ (∀ k ∈ os, 1 ≤ k ∧ k ≤ 31) ∧ os.length ≤ 31
  | .years os => os ≠ [] ∧ os.Pairwise dlt ∧ (∀ p ∈ os, IsDate 2000 (p.1 : Int) (p.2 : Int)) ∧ os.length ≤ 12
structure Ru where
  k : Kd
  s : Nat
  tm : List Nat
  f : Dy
  la : Option Dy
  but : List Dy
def laV : Option Dy → Va
  | none => .non
  | some x => .int x.n
def Ru.v (r : Ru) : Va := .tup [sV r.k.un, iV r.s, r.k.on, .tup (r.tm.map iV), .int r.f.n, laV r.la, .tup (r.but.map fun x => .int x.n)]
def stW (k : Kd) (s : Nat) : List (List Nat) := if s = 1 then [wv k.pl] else [wv "every", numL s, wv k.un]
def laW : Option Dy → List (List Nat)
  | none => []
  | some x => [wv "until", x.t]
def butW (l : List Dy) : List (List Nat) := if l = [] then [] else wv "but" :: l.map Dy.t
def Ru.ws (r : Ru) : List (List Nat) := stW r.k r.s ++ (r.k.ws ++ ([wv "at"] ++ (r.tm.map tmT ++ ([wv "from", r.f.t] ++ (laW r.la ++ butW r.but)))))
structure Ru.good (r : Ru) : Prop where
  k : r.k.good
  s1 : 1 ≤ r.s
  s2 : r.s ≤ 400
  t0 : r.tm ≠ []
  t1 : r.tm.Pairwise (· < ·)
  t2 : ∀ t ∈ r.tm, t < 1440
  t3 : r.tm.length ≤ 24
  f : r.f.ok
  la : ∀ x, r.la = some x → x.ok ∧ r.f.n ≤ x.n
  b1 : r.but.Pairwise fun x y => x.n < y.n
  b2 : ∀ x ∈ r.but, x.ok
  b3 : r.but.length ≤ 31
theorem isI {i : Int} : co .is (.int i) .non = some (.bl false) ∧ co .isnot (.int i) .non = some (.bl true) := ⟨rfl, rfl⟩
theorem isP {p : Nat × Nat} : co .is (pairV p) .non = some (.bl false) ∧ co .isnot (pairV p) .non = some (.bl true) := ⟨rfl, rfl⟩
theorem leI {i j : Int} (h : i < j) : co .le (.int j) (.int i) = some (.bl false) := by
  have : ¬ j ≤ i := by omega
  simp [this]
theorem leP {p q : Nat × Nat} (h : dlt p q) : co .le (pairV q) (pairV p) = some (.bl false) := by
  show (iLe (pairV q) (pairV p)).or (vDLtE (pairV q) (pairV p)) = _
  have : iLe (pairV q) (pairV p) = none := rfl
  rw [this]
  show vDLtE (pairV q) (pairV p) = _
  have al : PySem.W.alike (pd (pairV q)) (pd (pairV p)) = true := by
    show PySem.W.alike (.tuple [.int q.1, .int q.2]) (.tuple [.int p.1, .int p.2]) = true
    simp [PySem.W.alike, PySem.W.alikeAll]
  have c1 : ∀ z : Nat × Nat, cl 7 (pairV z) = true := fun z => by simp [pairV, iV, cl]
  have or_ : ordB (pairV q) (pairV p) = true := by
    unfold ordB
    rw [c1, c1, al]
    rfl
  unfold vDLtE
  rw [if_pos or_]
  have lt : PySem.W.dataLt (pd (pairV p)) (pd (pairV q)) = true := by
    show PySem.W.dataLt (.tuple [.int p.1, .int p.2]) (.tuple [.int q.1, .int q.2]) = true
    rw [PySem.W.dataLt_pair (by simp [PySem.W.alike]) (by simp [PySem.W.alike]), PySem.W.dataLt_int, PySem.W.dataLt_int]
    rcases h with h | ⟨h1, h2⟩
    · have e : PyData.eqv (.int (p.1 : Int)) (.int (q.1 : Int)) = false := by
        simp only [PyData.eqv, beq_eq_false_iff_ne]
        omega
      simp [h, e]
    · simp [PyData.eqv, h1, h2]
      omega
  rw [lt]
  rfl
end Wk50
end
section
namespace Wk50
open PySem PySem.Spec PyProof.Rows L2 Mi
open TL
theorem ck_d2 {n : Nat} (h : n < 100) : ck (d2 n) = true := by
  have h1 : 48 + n / 10 < 1114112 := by omega
  have h2 : 48 + n % 10 < 1114112 := by omega
  simp [ck, d2, h1, h2]
theorem plain_in : ∀ s ∈ ["daily", "weekly", "monthly", "yearly"], co .in_ (.str (wv s)) (.tup [sV "daily", sV "weekly", sV "monthly", sV "yearly"]) = some (.bl true) := by decide +kernel
theorem every_in : co .in_ (.str (wv "every")) (.tup [sV "daily", sV "weekly", sV "monthly", sV "yearly"]) = some (.bl false) := by decide +kernel
theorem Kd.mem (K : Kd) : ∃ i : Int, (K.pl, K.un, i) ∈ [("daily", "days", (0 : Int)), ("weekly", "weeks", 1), ("monthly", "months", 2), ("yearly", "years", 3)] := by
  cases K
  · exact ⟨0, by simp [Kd.pl, Kd.un]⟩
  · exact ⟨1, by simp [Kd.pl, Kd.un]⟩
  · exact ⟨2, by simp [Kd.pl, Kd.un]⟩
  · exact ⟨2, by simp [Kd.pl, Kd.un]⟩
  · exact ⟨2, by simp [Kd.pl, Kd.un]⟩
  · exact ⟨3, by simp [Kd.pl, Kd.un]⟩
theorem kds : ∀ p ∈ [("daily", "days", (0 : Int)), ("weekly", "weeks", 1), ("monthly", "months", 2), ("yearly", "years", 3)], co .notin (.str (wv p.2.1)) (.tup [sV "days", sV "weeks", sV "months", sV "years"]) = some (.bl false) ∧ co .in_ (.str (wv p.1)) (.tup [sV "daily", sV "weekly", sV "monthly", sV "yearly"]) = some (.bl true) ∧
    tixV [sV "daily", sV "weekly", sV "monthly", sV "yearly"] (.str (wv p.1)) = some (.int p.2.2) ∧ atI [sV "days", sV "weeks", sV "months", sV "years"] p.2.2 = some (sV p.2.1) ∧ tixV [sV "days", sV "weeks", sV "months", sV "years"] (sV p.2.1) = some (.int p.2.2) ∧ atI [sV "daily", sV "weekly", sV "monthly", sV "yearly"] p.2.2 = some (sV p.1) ∧ ck (wv p.1) = true ∧ ck (wv p.2.1) = true ∧ (32 : Nat) ∉ wv p.1 ∧ (32 : Nat) ∉ wv p.2.1 := by decide +kernel
theorem units_in (K : Kd) : co .notin (.str (wv K.un)) (.tup [sV "days", sV "weeks", sV "months", sV "years"]) = some (.bl false) := by
  obtain ⟨i, h⟩ := K.mem
  exact (kds _ h).1
theorem kd_facts (K : Kd) : co .in_ (.str (wv K.pl)) (.tup [sV "daily", sV "weekly", sV "monthly", sV "yearly"]) = some (.bl true) ∧ ∃ i : Int, tixV [sV "daily", sV "weekly", sV "monthly", sV "yearly"] (.str (wv K.pl)) = some (.int i) ∧ atI [sV "days", sV "weeks", sV "months", sV "years"] i = some (sV K.un) := by
  obtain ⟨i, h⟩ := K.mem
  have q := kds _ h
  exact ⟨q.2.1, i, q.2.2.1, q.2.2.2.1⟩
theorem g_MOST_STEP (n : Nat) : (G n).glo "MOST_STEP" = some (.int 400) := by cases n <;> rfl
theorem g_MOST_TIMES (n : Nat) : (G n).glo "MOST_TIMES" = some (.int 24) := by cases n <;> rfl
theorem read_kind_ok (n : Nat) (S : Store) {ws M : List (List Nat)} {k : Nat} {K : Kd} {s : Nat} (h1 : 1 ≤ s) (h2 : s ≤ 400) (hD : Dp ws k (stW K s ++ M)) : Dx.run (G (n + 3)) d_read_kind_words [.ref S.length] (st S ws k) = .ok (.tup [sV K.un, iV s]) (st S ws (k + (stW K s).length)) := by
  obtain ⟨p1, i, p2, p3⟩ := kd_facts K
  have hk := hD.1
  rw [run_d rfl]
  by_cases c : s = 1
  · have e : stW K s = [wv K.pl] := if_pos c
    rw [e] at hD ⊢
    have hw : see ws k = wv K.pl := hD.hd
    subst c
    simp [d_read_kind_words, k_read_kind_words, m_sees, sees_ok (n + 2) hk, hw, g_PLAIN, -q_in_tup, p1, m_next, next_ok (n + 1) hk, g_UNITS, p2, p3, iV]
  · have e : stW K s = [wv "every", numL s, wv K.un] := if_neg c
    rw [e] at hD ⊢
    have hw : see ws k = wv "every" := hD.hd
    have D1 := hD.next
    have hw1 : see ws (k + 1) = numL s := D1.hd
    have D2 := D1.next
    have hw2 : see ws (k + 1 + 1) = wv K.un := D2.hd
    have w1 := wants_ok (n + 1) (S := S) (w := wv "every") hk hw (by decide)
    have w2 := number_ok (n + 1) (S := S) (v := s) (lo := 2) (hi := 400) D1.1 hw1 h1 (by omega) (by omega) (by omega)
    have ev : sV "every" = .str (wv "every") := rfl
    have ei := every_in
    have eu := units_in K
    simp [d_read_kind_words, k_read_kind_words, m_sees, sees_ok (n + 2) hk, hw, g_PLAIN, -q_in_tup, -q_ni_tup, ei, m_wants, ev, w1, m_number, g_MOST_STEP, w2, sees_ok (n + 2) D2.1, hw2, g_UNITS, eu, m_next, next_ok (n + 1) D2.1]
    exact ⟨rfl, rfl⟩
theorem wd_stop {M : List (List Nat)} (h : M.headD [] = wv "at") : co .in_ (.str (M.headD [])) (.tup [sV "mo", sV "tu", sV "we", sV "th", sV "fr", sV "sa", sV "su"]) = some (.bl false) := by
  rw [h]
  decide +kernel
theorem nt_facts : ∀ k < 5, co .notin (.str (ntT k)) (.tup [sV "1st", sV "2nd", sV "3rd", sV "4th", sV "last"]) = some (.bl false) ∧ tixV [sV "1st", sV "2nd", sV "3rd", sV "4th", sV "last"] (.str (ntT k)) = some (.int (k : Int)) := by decide +kernel
theorem nt_num : ∀ k < 32, co .notin (.str (numL k)) (.tup [sV "1st", sV "2nd", sV "3rd", sV "4th", sV "last"]) = some (.bl true) := by decide +kernel
theorem g_fn (n : Nat) : (G n).glo "month_part" = some (.fn "month_part") ∧ (G n).glo "weekday_in" = some (.fn "weekday_in") ∧ (G n).glo "month_day_in" = some (.fn "month_day_in") ∧ (G n).glo "time_of" = some (.fn "time_of") ∧ (G n).glo "date_in" = some (.fn "date_in") := by cases n <;> exact ⟨rfl, rfl, rfl, rfl, rfl⟩
theorem read_on_ok (n : Nat) (S : Store) {ws M : List (List Nat)} {k : Nat} {K : Kd} (hg : K.good) (hw : ws.length ≤ 1000) (hM : M.headD [] = wv "at") (hD : Dp ws k (K.ws ++ M)) : Dx.run (G (n + 6)) d_read_on [.ref S.length, sV K.un] (st S ws k) = .ok K.on (st S ws (k + K.ws.length)) := by
  obtain ⟨g1, g2, g3, g4, g5⟩ := g_fn (n + 6)
  have g1' := (g_fn (n + 5)).1
  have on : sV "on" = .str (wv "on") := rfl
  have hk := hD.1
  have won : ∀ R, K.ws = wv "on" :: R → see ws k = wv "on" ∧ Dp ws (k + 1) (R ++ M) := fun R e => by
    rw [e] at hD
    exact ⟨hD.hd, hD.next⟩
  have e_days : ∀ s, s ∈ ["days", "weeks", "months", "years"] → co .eq (sV s) (sV "days") = some (.bl (s == "days")) := by decide +kernel
  have e_weeks : ∀ s, s ∈ ["days", "weeks", "months", "years"] → co .eq (sV s) (sV "weeks") = some (.bl (s == "weeks")) := by decide +kernel
  have e_months : ∀ s, s ∈ ["days", "weeks", "months", "years"] → co .eq (sV s) (sV "months") = some (.bl (s == "months")) := by decide +kernel
  rw [run_d rfl]
  cases K with
  | days =>
    simp [d_read_on, k_read_on, Kd.un, e_days, -q_eqV, Kd.on, Kd.ws]
  | weeks os =>
    obtain ⟨h0, h1, h2, h3⟩ := hg
    obtain ⟨w0, D⟩ := won _ rfl
    have w1 := wants_ok (n + 4) (S := S) (w := wv "on") hk w0 (by decide)
    have q := some_at (n + 4) S (most := 7) (nm := "weekday_in") (g := Dx.run (G (n + 4)) d_weekday_in) os wdT iV rfl rfl h0 (by omega) hw D (fun a ha W => weekday_ok _ W (h2 a ha)) (fun W => weekday_no _ W (wd_stop hM)) (fun a _ => isI) (h1.imp fun h => leI (by omega))
    simp [d_read_on, k_read_on, Kd.un, e_days, e_weeks, -q_eqV, m_wants, on, w1, g2, f_read_some, q, Kd.on, Kd.ws]
    congr 1
    omega
  | last =>
    obtain ⟨w0, D⟩ := won _ rfl
    have w1 := wants_ok (n + 4) (S := S) (w := wv "on") hk w0 (by decide)
    have hl : see ws (k + 1) = ntT 4 := D.hd
    have D2 : Dp ws (k + 1 + 1) M := D.next
    obtain ⟨n1, n2⟩ := nt_facts 4 (by decide)
    have q := weekday_no (n + 4) (st S ws (k + 1 + 1)) (wd_stop hM)
    have hs2 : see ws (k + 1 + 1) = M.headD [] := D2.hd
    rw [hM] at hs2 q
    have rm : Dx.run (G (n + 5)) d_read_month [.ref S.length] (st S ws (k + 1)) = .ok (.tup []) (st S ws (k + 1 + 1)) := by
      rw [run_d rfl]
      simp [d_read_month, k_read_month, m_sees, sees_ok (n + 4) D.1, hl, g_NTHS, -q_ni_tup, n1, m_next, next_ok (n + 3) D.1, n2, sees_ok (n + 4) D2.1, hs2, f_weekday_in, q]
    simp [d_read_on, k_read_on, Kd.un, e_days, e_weeks, e_months, -q_eqV, m_wants, on, w1, f_read_month, rm, Kd.on, Kd.ws]
  | nth nt wd =>
    obtain ⟨h1, h2⟩ := hg
    obtain ⟨w0, D⟩ := won _ rfl
    have w1 := wants_ok (n + 4) (S := S) (w := wv "on") hk w0 (by decide)
    have hl : see ws (k + 1) = ntT nt := D.hd
    have D2 : Dp ws (k + 1 + 1) (wdT wd :: M) := D.next
    obtain ⟨n1, n2⟩ := nt_facts nt h1
    have hs2 : see ws (k + 1 + 1) = wdT wd := D2.hd
    have q := weekday_ok (n + 4) (st S ws (k + 1 + 1)) h2
    have rm : Dx.run (G (n + 5)) d_read_month [.ref S.length] (st S ws (k + 1)) = .ok (.tup [iV (nt + 1), iV wd, .int 0]) (st S ws (k + 1 + 1 + 1)) := by
      rw [run_d rfl]
      simp [d_read_month, k_read_month, m_sees, sees_ok (n + 4) D.1, hl, g_NTHS, -q_ni_tup, n1, m_next, next_ok (n + 3) D.1, n2, sees_ok (n + 4) D2.1, hs2, f_weekday_in, q, next_ok (n + 3) D2.1, iV]
    simp [d_read_on, k_read_on, Kd.un, e_days, e_weeks, e_months, -q_eqV, m_wants, on, w1, f_read_month, rm, Kd.on, Kd.ws]
  | months os =>
    obtain ⟨h0, h1, h2, h3⟩ := hg
    obtain ⟨w0, D⟩ := won _ rfl
    have w1 := wants_ok (n + 4) (S := S) (w := wv "on") hk w0 (by decide)
    obtain ⟨o, ot, ho⟩ : ∃ o ot, os = o :: ot := by
      cases os with
      | nil => exact absurd rfl h0
      | cons o ot => exact ⟨o, ot, rfl⟩
    have hl : see ws (k + 1) = numL o := by
      have := D.hd
      rw [ho] at this
      exact this
    have n1 := nt_num o (by have := (h2 o (by rw [ho]; exact List.mem_cons_self)).2; omega)
    have q := some_at (n + 3) S (most := 31) (nm := "month_part") (g := Dx.run (G (n + 3)) d_month_part) os numL iV rfl rfl h0 (by omega) hw D (fun a ha W => month_part_ok _ W (h2 a ha).1 (h2 a ha).2) (fun W => month_part_no _ W (by rw [hM]; decide) (by rw [hM]; decide)) (fun a _ => isI) (h1.imp fun h => leI (by omega))
    have rm : Dx.run (G (n + 5)) d_read_month [.ref S.length] (st S ws (k + 1)) = .ok (.tup (os.map iV)) (st S ws (k + 1 + os.length)) := by
      rw [run_d rfl]
      simp [d_read_month, k_read_month, m_sees, sees_ok (n + 4) D.1, hl, g_NTHS, -q_ni_tup, n1, g1', f_read_some, q]
    simp [d_read_on, k_read_on, Kd.un, e_days, e_weeks, e_months, -q_eqV, m_wants, on, w1, f_read_month, rm, Kd.on, Kd.ws]
    congr 1
    omega
  | years os =>
    obtain ⟨h0, h1, h2, h3⟩ := hg
    obtain ⟨w0, D⟩ := won _ rfl
    have w1 := wants_ok (n + 4) (S := S) (w := wv "on") hk w0 (by decide)
    have q := some_at (n + 4) S (most := 12) (nm := "month_day_in") (g := Dx.run (G (n + 4)) d_month_day_in) os (fun p => mdT p.1 p.2) pairV rfl rfl h0 (by omega) hw D (fun a ha W => md_ok n W (h2 a ha)) (fun W => md_no _ W (by rw [hM]; decide) (by rw [hM]; decide)) (fun a _ => isP) (h1.imp fun h => leP h)
    simp [d_read_on, k_read_on, Kd.un, e_days, e_weeks, e_months, -q_eqV, m_wants, on, w1, g3, f_read_some, q, Kd.on, Kd.ws]
    congr 1
    omega
end Wk50
end
section
namespace Wk50
open PySem PySem.Spec PyProof.Rows L2 Mi
open TL
theorem dt_len (x : Dy) : x.t.length = 10 := rfl
theorem Dy.read (n : Nat) {x : Dy} (S : Store) (h : x.ok) : Dx.run (G (n + 3)) d_date_in [.str x.t] S = .ok (.int x.n) S := date_ok n S h.1 h.2
theorem read_date_ok (n : Nat) (S : Store) {ws M : List (List Nat)} {k : Nat} {x : Dy} (hx : x.ok) (hD : Dp ws k (x.t :: M)) : Dx.run (G (n + 4)) d_read_date [.ref S.length] (st S ws k) = .ok (.int x.n) (st S ws (k + 1)) := by
  have hw : see ws k = x.t := hD.hd
  rw [run_d rfl]
  simp [d_read_date, k_read_date, m_sees, sees_ok (n + 3) hD.1, hw, f_date_in, Dy.read n _ hx, m_next, next_ok (n + 2) hD.1]
theorem ck_dt {x : Dy} (h : x.ok) : ck x.t = true := by
  have h1 := h.1
  have h2 := h.2.m2
  have h3 := h.2.d2
  have h4 := mlen_hi ((2000 + x.y : Nat) : Int) (x.m : Int)
  simp [ck, Dy.t, dtT, d4, d2]
  omega
theorem eq_no {w : List Nat} {s : String} (hc : ck w = true) (hs : ck (wv s) = true) (h : w.length ≠ (wv s).length) : co .eq (.str w) (sV s) = some (.bl false) := by
  rw [wvV, eqS hc hs]
  have : ¬ w = wv s := fun e => h (by rw [e])
  simp [this]
theorem eq_ye {s : String} (hs : ck (wv s) = true) : co .eq (.str (wv s)) (sV s) = some (.bl true) := by
  rw [wvV, eqS hs hs]
  simp
theorem lt_d {a b : Int} (h : a ≤ b) : co .lt (.int b) (.int a) = some (.bl false) := by
  have : ¬ b < a := by omega
  simp [this]
section
variable {S : Store} {ws : List (List Nat)} {k : Nat}
theorem wants2 (n : Nat) {s : String} {M : List (List Nat)} (hD : Dp ws k (wv s :: M)) (hc : ck (wv s) = true) : Dx.run (G (n + 1)) d_Words_wants [.ref S.length, sV s] (st S ws k) = .ok .non (st S ws (k + 1)) := by
  rw [wvV]
  exact wants_ok n hD.1 hD.hd hc
end
theorem read_rule_at (n : Nat) (S : Store) {r : Ru} {ws : List (List Nat)} {k0 : Nat} (g : r.good) (hw : ws.length ≤ 1000) (hD : Dp ws k0 r.ws) : Dx.run (G (n + 7)) d_read_rule [.ref S.length] (st S ws k0) = .ok r.v (st S ws ws.length) := by
  have D0 : Dp ws k0 (stW r.k r.s ++ (r.k.ws ++ ([wv "at"] ++ (r.tm.map tmT ++ ([wv "from", r.f.t] ++ (laW r.la ++ butW r.but)))))) := hD
  obtain ⟨_, _, _, g4, g5⟩ := g_fn (n + 7)
  have q0 := read_kind_ok (n + 3) S g.s1 g.s2 D0
  have D1 := D0.app
  obtain ⟨k1, hk1⟩ : ∃ k1, k1 = k0 + (stW r.k r.s).length := ⟨_, rfl⟩
  rw [← hk1] at q0 D1
  have q1 := read_on_ok n S g.k hw rfl D1
  have D2 := D1.app
  obtain ⟨k2, hk2⟩ : ∃ k2, k2 = k1 + r.k.ws.length := ⟨_, rfl⟩
  rw [← hk2] at q1 D2
  have q2 := wants2 (S := S) (n + 5) (s := "at") D2 (by decide)
  have D3 : Dp ws (k2 + 1) (r.tm.map tmT ++ ([wv "from", r.f.t] ++ (laW r.la ++ butW r.but))) := D2.next
  have q3 := some_at (n + 5) S (most := 24) (nm := "time_of") (g := Dx.run (G (n + 5)) d_time_of) r.tm tmT iV rfl rfl g.t0 (by have := g.t3; omega) hw D3 (fun a ha W => time_ok _ W (g.t2 a ha)) (fun W => time_no (n + 4) (w := wv "from") W (by decide) (by decide)) (fun a _ => isI) (g.t1.imp fun h => leI (by omega))
  have D4 := D3.app
  rw [List.length_map] at D4
  obtain ⟨k3, hk3⟩ : ∃ k3, k3 = k2 + 1 + r.tm.length := ⟨_, rfl⟩
  rw [← hk3] at q3 D4
  have q4 := wants2 (S := S) (n + 5) (s := "from") D4 (by decide)
  have D5 : Dp ws (k3 + 1) (r.f.t :: (laW r.la ++ butW r.but)) := D4.next
  have q5 := read_date_ok (n + 2) S g.f D5
  have D6 := D5.next
  rw [run_d rfl]
  simp only [d_read_rule, k_read_rule]
  simp [k_read_rule_t0, f_read_kind, q0, iV]
  simp [k_read_rule_t1, f_read_on, q1]
  simp [k_read_rule_t2, m_wants, q2]
  simp [k_read_rule_t3, g4, g_MOST_TIMES, f_read_some, q3]
  simp [k_read_rule_t4, m_wants, q4]
  simp [k_read_rule_t5, f_read_date, q5]
  simp [k_read_rule_t6]
  -- the last day
  obtain ⟨k5, D7, q7⟩ : ∃ k5, Dp ws k5 (butW r.but) ∧ ∀ (s5 s7 : Sl), evK (G (n + 7)) k_read_rule_t7 [.val (.ref S.length), .val r.k.on, .val (.tup (r.tm.map iV)), .val (.int r.f.n), .val .non, s5, .val (sV r.k.un), s7] (st S ws (k3 + 1 + 1)) = evK (G (n + 7)) k_read_rule_t8 [.val (.ref S.length), .val r.k.on, .val (.tup (r.tm.map iV)), .val (.int r.f.n), .val (laV r.la), s5, .val (sV r.k.un), s7] (st S ws k5) := by
    cases hla : r.la with
    | none =>
      rw [hla] at D6
      have D6 : Dp ws (k3 + 1 + 1) (butW r.but) := D6
      refine ⟨_, D6, fun s5 s7 => ?_⟩
      have hs : see ws (k3 + 1 + 1) = (butW r.but).headD [] := D6.hd
      have e : co .eq (.str ((butW r.but).headD [])) (sV "until") = some (.bl false) := by
        unfold butW
        by_cases c : r.but = []
        · rw [if_pos c]
          exact eq_no (by decide) (by decide) (by decide)
        · rw [if_neg c]
          exact eq_no (w := wv "but") (by decide) (by decide) (by decide)
      rw [← hs] at e
      simp [k_read_rule_t7, m_sees, sees_ok (n + 6) D6.1, e, -q_eqV, laV]
    | some x =>
      obtain ⟨hx, hfx⟩ := g.la x hla
      rw [hla] at D6
      have D6 : Dp ws (k3 + 1 + 1) (wv "until" :: (x.t :: butW r.but)) := D6
      have D7 := D6.next
      have D8 := D7.next
      refine ⟨_, D8, fun s5 s7 => ?_⟩
      have hs : see ws (k3 + 1 + 1) = wv "until" := D6.hd
      have hs2 : see ws (k3 + 1 + 1 + 1) = x.t := D7.hd
      have e := eq_ye (s := "until") (by decide)
      have rd := read_date_ok (n + 2) S hx D7
      have lt : ¬ x.n < r.f.n := by omega
      simp [k_read_rule_t7, m_sees, sees_ok (n + 6) D6.1, hs, e, -q_eqV, m_next, next_ok (n + 5) D6.1, sees_ok (n + 6) D7.1, hs2, f_date_in, Dy.read (n + 3) _ hx, lt, f_read_date, rd, laV]
  rw [q7]
  simp [k_read_rule_t8]
  have fin : ∀ (s : Sl), True := fun _ => trivial
  obtain ⟨D9, q9⟩ : Dp ws ws.length [] ∧ ∀ (s7 : Sl), evK (G (n + 7)) k_read_rule_t9 [.val (.ref S.length), .val r.k.on, .val (.tup (r.tm.map iV)), .val (.int r.f.n), .val (laV r.la), .val (.tup []), .val (sV r.k.un), s7] (st S ws k5) = evK (G (n + 7)) k_read_rule_t10 [.val (.ref S.length), .val r.k.on, .val (.tup (r.tm.map iV)), .val (.int r.f.n), .val (laV r.la), .val (.tup (r.but.map fun x => .int x.n)), .val (sV r.k.un), s7] (st S ws ws.length) := by
    refine ⟨⟨Nat.le_refl _, by simp⟩, fun s7 => ?_⟩
    have hs : see ws k5 = (butW r.but).headD [] := D7.hd
    have hl := D7.len
    by_cases c : r.but = []
    · have e : co .eq (.str ((butW r.but).headD [])) (sV "but") = some (.bl false) := by
        unfold butW
        rw [if_pos c]
        exact eq_no (by decide) (by decide) (by decide)
      rw [← hs] at e
      have hk : k5 = ws.length := by
        unfold butW at hl
        rw [if_pos c] at hl
        simpa using hl
      simp [k_read_rule_t9, m_sees, sees_ok (n + 6) D7.1, e, -q_eqV, c]
      rw [hk]
    · have eb : butW r.but = wv "but" :: r.but.map Dy.t := if_neg c
      rw [eb] at hs D7 hl
      have D8 : Dp ws (k5 + 1) (r.but.map Dy.t ++ []) := by rw [List.append_nil]; exact D7.next
      have hs : see ws k5 = wv "but" := hs
      have e := eq_ye (s := "but") (by decide)
      have rs := some_at (n + 5) S (most := 31) (nm := "date_in") (g := Dx.run (G (n + 5)) d_date_in) r.but Dy.t (fun x => .int x.n) rfl rfl c (by have := g.b3; omega) hw D8 (fun a ha W => Dy.read (n + 2) W (g.b2 a ha)) (fun W => date_no _ W (by decide) (by decide)) (fun a _ => isI) (g.b1.imp fun h => leI h)
      have hk : k5 + 1 + r.but.length = ws.length := by
        rw [List.length_cons, List.length_map] at hl
        omega
      rw [hk] at rs
      simp [k_read_rule_t9, m_sees, sees_ok (n + 6) D7.1, hs, e, -q_eqV, m_next, next_ok (n + 5) D7.1, g5, f_read_some, rs]
  rw [q9]
  simp [k_read_rule_t10, k_read_rule_t11, Ru.v, iV]
theorem read_rule_ok (n : Nat) (S : Store) {r : Ru} (g : r.good) (hw : r.ws.length ≤ 1000) : Dx.run (G (n + 7)) d_read_rule [.ref S.length] (st S r.ws 0) = .ok r.v (st S r.ws r.ws.length) := read_rule_at n S g hw ⟨Nat.zero_le _, rfl⟩
theorem read_ok (n : Nat) (S : Store) {r : Ru} (g : r.good) (hw : r.ws.length ≤ 1000) (hn : r.ws ≠ []) (hs : ∀ w ∈ r.ws, (32 : Nat) ∉ w) (hl : (joinL [32] r.ws).length ≤ 60000) : Dx.run (G (n + 8)) d_read [.str (joinL [32] r.ws)] S = .ok r.v (st S r.ws r.ws.length) := by
  have sp : tmV .split (joinL [32] r.ws) (.str [32]) = some (.lst (r.ws.map .str)) := by
    show splitT _ _ = _
    unfold splitT
    rw [if_pos ⟨by simp, by decide, Nat.le_trans (Nat.add_le_add_right hl 2) (by decide)⟩, spl_join hn hs]
  have h1 := (fl_W (n + 7)).1
  have h2 := (fl_W (n + 7)).2
  have s1 : setFld (G (n + 7)).fld (S ++ [.ins "Words" []]) (.ref S.length) (.lst (r.ws.map .str)) "words" = some (S ++ [.ins "Words" [("words", .lst (r.ws.map .str))]]) := by
    simp [setFld, h1, putS]
  have s2 : setFld (G (n + 7)).fld (S ++ [.ins "Words" [("words", .lst (r.ws.map .str))]]) (.ref S.length) (.int 0) "at" = some (st S r.ws 0) := by
    simp [setFld, h2, putS, st, wdO]
  have nw : Dx.run (G (n + 7)) d_Words_init [.ref S.length, .str (joinL [32] r.ws)] (S ++ [.ins "Words" []]) = .ok .non (st S r.ws 0) := by
    rw [run_d rfl]
    simp [d_Words_init, k_Words_init, sV_sp, sp, setFM_e s1, setFM_e s2]
  rw [run_d rfl]
  simp [d_read, k_read, i_Words, nw, f_read_rule, read_rule_ok n S g hw]
end Wk50
end
section
namespace Wk50
open PySem PySem.Spec PyProof.Rows L2 Mi
open TL
/-! rules written -/
def Wl (L : List (List Nat)) : Va := .lst (L.map .str)
theorem addW {a b : List (List Nat)} (h : a.length + b.length ≤ 2000) : b2 .add (Wl a) (Wl b) = some (Wl (a ++ b)) := by
  unfold Wl
  rw [q_addL (by rw [List.length_map, List.length_map]; omega), List.map_append]
theorem f_two (n : Nat) : (G (n + 1)).fn "two" = some (Dx.run (G n) d_two) := rfl
theorem f_time_text (n : Nat) : (G (n + 1)).fn "time_text" = some (Dx.run (G n) d_time_text) := rfl
theorem f_date_text (n : Nat) : (G (n + 1)).fn "date_text" = some (Dx.run (G n) d_date_text) := rfl
theorem f_on_text (n : Nat) : (G (n + 1)).fn "on_text" = some (Dx.run (G n) d_on_text) := rfl
theorem f_written (n : Nat) : (G (n + 1)).fn "written" = some (Dx.run (G n) d_written) := rfl
theorem p_strN {k : Nat} (h : k < 100000) : pr .str [.int (k : Int)] = some (.str (numL k)) := by
  have := p_str (i := (k : Int)) (by omega) (by omega)
  simpa using this
theorem two_ok (n : Nat) {i : Int} (S : Store) (h0 : 0 ≤ i) (h1 : i < 100) : Dx.run (G n) d_two [.int i] S = .ok (.str (d2 i.toNat)) S := by
  have e := p_str (i := i) h0 (by omega)
  have p := p2 i.toNat (by omega)
  rw [run_d rfl]
  simp [d_two, k_two, e, sV_0, p]
theorem add5a {a b : Nat} : b2 .add (.str [a, b]) (.str [58]) = some (.str [a, b, 58]) := q_addS (by simp)
theorem add5b {a b c d : Nat} : b2 .add (.str [a, b, 58]) (.str [c, d]) = some (.str [a, b, 58, c, d]) := q_addS (by simp)
theorem add5c {a b : Nat} : b2 .add (.str [a, b]) (.str [45]) = some (.str [a, b, 45]) := q_addS (by simp)
theorem add5d {a b c d : Nat} : b2 .add (.str [a, b, 45]) (.str [c, d]) = some (.str [a, b, 45, c, d]) := q_addS (by simp)
theorem addxa {a b c d : Nat} : b2 .add (.str [a, b, c, d]) (.str [45]) = some (.str [a, b, c, d, 45]) := q_addS (by simp)
theorem addxb {a b c d e f : Nat} : b2 .add (.str [a, b, c, d, 45]) (.str [e, f]) = some (.str [a, b, c, d, 45, e, f]) := q_addS (by simp)
theorem addxc {a b c d e f : Nat} : b2 .add (.str [a, b, c, d, 45, e, f]) (.str [45]) = some (.str [a, b, c, d, 45, e, f, 45]) := q_addS (by simp)
theorem addxd {a b c d e f g h : Nat} : b2 .add (.str [a, b, c, d, 45, e, f, 45]) (.str [g, h]) = some (.str [a, b, c, d, 45, e, f, 45, g, h]) := q_addS (by simp)
theorem d2_2 (n : Nat) : ∃ a b, d2 n = [a, b] := ⟨_, _, rfl⟩
theorem d4_4 (n : Nat) : ∃ a b c d, d4 n = [a, b, c, d] := ⟨_, _, _, _, rfl⟩
theorem time_text_ok (n : Nat) {t : Nat} (S : Store) (h : t < 1440) : Dx.run (G (n + 1)) d_time_text [.int (t : Int)] S = .ok (.str (tmT t)) S := by
  have q1 := two_ok n (i := (t : Int) / 60) S (by omega) (by omega)
  have q2 := two_ok n (i := (t : Int) % 60) S (by omega) (by omega)
  have e1 : ((t : Int) / 60).toNat = t / 60 := by omega
  have e2 : ((t : Int) % 60).toNat = t % 60 := by omega
  rw [e1] at q1
  rw [e2] at q2
  obtain ⟨a, b, ea⟩ := d2_2 (t / 60)
  obtain ⟨c, d, ec⟩ := d2_2 (t % 60)
  have et : tmT t = [a, b, 58, c, d] := by
    unfold tmT
    rw [ea, ec]
    rfl
  rw [ea] at q1
  rw [ec] at q2
  rw [et, run_d rfl]
  simp [d_time_text, k_time_text, q_div, q_mod, f_two, q1, q2, sV_col, add5a, add5b]
theorem date_text_ok (n : Nat) {x : Dy} (S : Store) (h : x.ok) : Dx.run (G (n + 3)) d_date_text [.int x.n] S = .ok (.str x.t) S := by
  have hm : x.m < 100 := by
    have := h.2.m2
    omega
  have hd : x.d < 100 := by
    have := h.2.d2
    have := mlen_hi ((2000 + x.y : Nat) : Int) (x.m : Int)
    omega
  have hy := h.1
  have q0 := date_of_ok n S h.2
  have q1 := two_ok (n + 2) (i := (x.m : Int)) S (by omega) (by omega)
  have q2 := two_ok (n + 2) (i := (x.d : Int)) S (by omega) (by omega)
  have e1 : (x.m : Int).toNat = x.m := by omega
  have e2 : (x.d : Int).toNat = x.d := by omega
  rw [e1] at q1
  rw [e2] at q2
  have ps := p_strN (k := 2000 + x.y) (by omega)
  have pp := p4 x.y hy
  obtain ⟨Y, hY⟩ : ∃ Y : Int, Y = ((2000 + x.y : Nat) : Int) := ⟨_, rfl⟩
  rw [← hY] at q0 ps
  obtain ⟨a, b, ea⟩ := d2_2 x.m
  obtain ⟨c, d, ec⟩ := d2_2 x.d
  obtain ⟨e, f, g, i, ee⟩ := d4_4 (2000 + x.y)
  have et : x.t = [e, f, g, i, 45, a, b, 45, c, d] := by
    unfold Dy.t dtT
    rw [ea, ec, ee]
    rfl
  have hn : x.n = dayN Y (x.m : Int) (x.d : Int) := by rw [hY]; rfl
  rw [ea] at q1
  rw [ec] at q2
  rw [ee] at pp
  rw [et, hn, run_d rfl]
  simp [d_date_text, k_date_text, f_date_of, q0, ps, sV_0, pp, sV_min, f_two, q1, q2, addxa, addxb, addxc, addxd]
theorem wd_ix : ∀ k : Nat, k < 7 → atI [sV "mo", sV "tu", sV "we", sV "th", sV "fr", sV "sa", sV "su"] (k : Int) = some (.str (wdT k)) := by decide +kernel
theorem nt_ix : ∀ k : Nat, k < 5 → atI [sV "1st", sV "2nd", sV "3rd", sV "4th", sV "last"] (k : Int) = some (.str (ntT k)) := by decide +kernel
def Kd.ow : Kd → List (List Nat)
  | .days => []
  | .weeks os => os.map wdT
  | .last => [wv "last"]
  | .nth nt wd => [ntT nt, wdT wd]
  | .months os => os.map numL
  | .years os => os.map fun p => mdT p.1 p.2
theorem ow_ws {K : Kd} (h : K ≠ .days) : K.ws = [wv "on"] ++ K.ow := by
  cases K <;> first | rfl | exact absurd rfl h
theorem un_eq : ∀ s, s ∈ ["days", "weeks", "months", "years"] → ∀ t, t ∈ ["days", "weeks", "months", "years"] → co .eq (sV s) (sV t) = some (.bl (s == t)) ∧ co .ne (sV s) (sV t) = some (.bl (!(s == t))) := by decide +kernel
theorem iV_cl {os : List Nat} : cl 8 (.tup (os.map iV)) = true := by simp [iV]
theorem eq_nil {os : List Nat} (h : os ≠ []) : co .eq (.tup (os.map iV)) (.tup []) = some (.bl false) := by
  rw [q_eqV iV_cl rfl]
  cases os with
  | nil => exact absurd rfl h
  | cons a l => simp
theorem ix3 {os : List Nat} (h : os.length = 3) (h1 : ∀ k ∈ os, 1 ≤ k) : ∃ c : Int, c ≠ 0 ∧ atI (os.map iV) 2 = some (.int c) := by
  match os, h with
  | [a, b, c], _ =>
    have := h1 c (by simp)
    exact ⟨(c : Int), by omega, rfl⟩
theorem on_text_ok (n : Nat) {K : Kd} (S : Store) (hg : K.good) (hd : K ≠ .days) : Dx.run (G (n + 1)) d_on_text [sV K.un, K.on] S = .ok (Wl K.ow) S := by
  have ue := fun s h t h' => (un_eq s h t h').1
  rw [run_d rfl]
  cases K with
  | days => exact absurd rfl hd
  | weeks os =>
    obtain ⟨h0, h1, h2, h3⟩ := hg
    simp [d_on_text, k_on_text, Kd.un, Kd.on, ue, -q_eqV]
    rw [lcW_onY iV (fun k => .str (wdT k)) (le_line (by omega)) fun k hk => ⟨_, rfl, by simp [wipeE, iV, g_WEEKDAYS, wd_ix k (h2 k hk)]⟩]
    simp [Wl, Kd.ow, Function.comp_def]
  | years os =>
    obtain ⟨h0, h1, h2, h3⟩ := hg
    simp [d_on_text, k_on_text, Kd.un, Kd.on, ue, -q_eqV]
    rw [lcW_onY pairV (fun p => .str (mdT p.1 p.2)) (le_line (by omega)) fun p hp => by
      have i := h2 p hp
      have m1 := i.m2
      have d1 := i.d2
      have := mlen_hi 2000 (p.1 : Int)
      have q1 := two_ok n (i := (p.1 : Int)) S (by omega) (by omega)
      have q2 := two_ok n (i := (p.2 : Int)) S (by omega) (by omega)
      have e1 : (p.1 : Int).toNat = p.1 := by omega
      have e2 : (p.2 : Int).toNat = p.2 := by omega
      rw [e1] at q1
      rw [e2] at q2
      obtain ⟨a, b, ea⟩ := d2_2 p.1
      obtain ⟨c, d, ec⟩ := d2_2 p.2
      have et : mdT p.1 p.2 = [a, b, 45, c, d] := by
        unfold mdT
        rw [ea, ec]
        rfl
      rw [ea] at q1
      rw [ec] at q2
      rw [et]
      exact ⟨_, rfl, by simp [wipeE, pairV, iV, f_two, q1, q2, sV_min, add5c, add5d]⟩]
    simp [Wl, Kd.ow, Function.comp_def]
  | last =>
    have e : co .eq (.tup []) (.tup []) = some (.bl true) := by decide +kernel
    simp [d_on_text, k_on_text, Kd.un, Kd.on, ue, -q_eqV, e]
    rfl
  | nth nt wd =>
    obtain ⟨h1, h2⟩ := hg
    have e : co .eq (.tup [iV (nt + 1), iV wd, .int 0]) (.tup []) = some (.bl false) := by
      rw [q_eqV (by simp [iV]) rfl]
      simp
    have a2 : atI [iV (nt + 1), iV wd, .int 0] 2 = some (.int 0) := rfl
    have a1 : atI [iV (nt + 1), iV wd, .int 0] 1 = some (.int (wd : Int)) := rfl
    have a0 : atI [iV (nt + 1), iV wd, .int 0] 0 = some (.int ((nt + 1 : Nat) : Int)) := rfl
    have e1 : ((nt + 1 : Nat) : Int) - 1 = (nt : Int) := by omega
    simp [d_on_text, k_on_text, Kd.un, Kd.on, ue, -q_eqV, e, a0, a1, a2, g_NTHS, g_WEEKDAYS, wd_ix wd h2, nt_ix nt h1]
    rfl
  | months os =>
    obtain ⟨h0, h1, h2, h3⟩ := hg
    have fin : lcW (G (n + 1)) (.one 2) [2] .yes (.prim .str (.acons (.var 2) .anil)) [.val (sV "months"), .val (.tup (os.map iV)), .no, .no] (os.map iV) S = .ok (.lst (os.map fun k => .str (numL k))) S := lcW_onY iV (fun k => .str (numL k)) (le_line (by omega)) fun k hk => ⟨_, rfl, by
      have := h2 k hk
      simp [wipeE, iV, p_strN (k := k) (by omega)]⟩
    by_cases c : os.length = 3
    · obtain ⟨z, z0, hz⟩ := ix3 c fun k hk => (h2 k hk).1
      have c' : (os.length : Int) = 3 := by omega
      simp [d_on_text, k_on_text, Kd.un, Kd.on, ue, -q_eqV, eq_nil h0, c, hz, z0, fin, q_eq]
      simp [Wl, Kd.ow, Function.comp_def]
    · have c' : ¬ (os.length : Int) = 3 := by omega
      simp [d_on_text, k_on_text, Kd.un, Kd.on, ue, -q_eqV, eq_nil h0, c', fin, q_eq]
      simp [Wl, Kd.ow, Function.comp_def]
end Wk50
end
section
namespace Wk50
open PySem PySem.Spec PyProof.Rows L2 Mi
open TL
theorem joinL_len : ∀ L : List (List Nat), (joinL [32] L).length ≤ (L.map (·.length)).sum + L.length
  | [] => by simp [joinL]
  | [p] => by simp [joinL]
  | p :: q :: r => by
    have ih := joinL_len (q :: r)
    show (p ++ ([32] ++ joinL [32] (q :: r))).length ≤ _
    simp only [List.length_append, List.map_cons, List.sum_cons, List.length_cons, List.length_nil] at ih ⊢
    omega
theorem sum_len {L : List (List Nat)} (h : ∀ w ∈ L, w.length ≤ 10) : (L.map (·.length)).sum ≤ 10 * L.length := by
  induction L with
  | nil => simp
  | cons a l ih =>
    have h1 := h a List.mem_cons_self
    have h2 := ih fun w hw => h w (List.mem_cons_of_mem _ hw)
    rw [List.map_cons, List.sum_cons, List.length_cons]
    omega
def okW (w : List Nat) : Prop := w.length ≤ 10 ∧ (32 : Nat) ∉ w
theorem ok_d2 {n : Nat} : (32 : Nat) ∉ d2 n := by
  simp [d2]
  omega
theorem ok_d4 {n : Nat} : (32 : Nat) ∉ d4 n := by
  simp [d4]
  omega
theorem ok_tm (t : Nat) : okW (tmT t) := ⟨by simp [tmT, d2], by
  have := ok_d2 (n := t / 60)
  have := ok_d2 (n := t % 60)
  simp [tmT, *]⟩
theorem ok_dt (x : Dy) : okW x.t := ⟨by simp [Dy.t, dtT, d2, d4], by
  have := ok_d4 (n := 2000 + x.y)
  have := ok_d2 (n := x.m)
  have := ok_d2 (n := x.d)
  simp [Dy.t, dtT, *]⟩
theorem ok_md (m d : Nat) : okW (mdT m d) := ⟨by simp [mdT, d2], by
  have := ok_d2 (n := m)
  have := ok_d2 (n := d)
  simp [mdT, *]⟩
theorem ok_nL {k : Nat} (h : k < 401) : okW (numL k) := ⟨by have := nL_len k h; omega, numL_free (by omega)⟩
theorem ok_wd : ∀ k < 7, (wdT k).length ≤ 10 ∧ (32 : Nat) ∉ wdT k := by decide
theorem ok_nt : ∀ k < 5, (ntT k).length ≤ 10 ∧ (32 : Nat) ∉ ntT k := by decide
theorem ok_un (K : Kd) : okW (wv K.un) ∧ okW (wv K.pl) := by
  obtain ⟨i, h⟩ := K.mem
  have q : ∀ p ∈ [("daily", "days", (0 : Int)), ("weekly", "weeks", 1), ("monthly", "months", 2), ("yearly", "years", 3)], ((wv p.2.1).length ≤ 10 ∧ (32 : Nat) ∉ wv p.2.1) ∧ (wv p.1).length ≤ 10 ∧ (32 : Nat) ∉ wv p.1 := by decide +kernel
  exact q _ h
theorem ok_c : ∀ s ∈ ["every", "on", "at", "from", "until", "but", "last"], (wv s).length ≤ 10 ∧ (32 : Nat) ∉ wv s := by decide +kernel
theorem ok_k {K : Kd} (g : K.good) : (∀ w ∈ K.ws, okW w) ∧ K.ws.length ≤ 40 := by
  have on : okW (wv "on") := ok_c "on" (by simp)
  cases K with
  | days => exact ⟨by simp [Kd.ws], by simp [Kd.ws]⟩
  | weeks os =>
    refine ⟨fun w hw => ?_, by have := g.2.2.2; simp [Kd.ws]; omega⟩
    rcases List.mem_cons.mp hw with rfl | h
    · exact on
    · obtain ⟨k, hk, rfl⟩ := List.mem_map.mp h
      exact ok_wd k (g.2.2.1 k hk)
  | last =>
    refine ⟨fun w hw => ?_, by simp [Kd.ws]⟩
    rcases List.mem_cons.mp hw with rfl | h
    · exact on
    · rw [List.mem_singleton.mp h]
      exact ok_c "last" (by simp)
  | nth nt wd =>
    refine ⟨fun w hw => ?_, by simp [Kd.ws]⟩
    rcases List.mem_cons.mp hw with rfl | h
    · exact on
    · rcases List.mem_cons.mp h with rfl | h
      · exact ok_nt nt g.1
      · rw [List.mem_singleton.mp h]
        exact ok_wd wd g.2
  | months os =>
    refine ⟨fun w hw => ?_, by have := g.2.2.2; simp [Kd.ws]; omega⟩
    rcases List.mem_cons.mp hw with rfl | h
    · exact on
    · obtain ⟨k, hk, rfl⟩ := List.mem_map.mp h
      have := g.2.2.1 k hk
      exact ok_nL (by omega)
  | years os =>
    refine ⟨fun w hw => ?_, by have := g.2.2.2; simp [Kd.ws]; omega⟩
    rcases List.mem_cons.mp hw with rfl | h
    · exact on
    · obtain ⟨k, hk, rfl⟩ := List.mem_map.mp h
      exact ok_md _ _
theorem ok_ws {r : Ru} (g : r.good) : (∀ w ∈ r.ws, okW w) ∧ r.ws.length ≤ 120 ∧ r.ws ≠ [] := by
  obtain ⟨k1, k2⟩ := ok_k g.k
  have u := ok_un r.k
  have t3 := g.t3
  have b3 := g.b3
  have sw : (∀ w ∈ stW r.k r.s, okW w) ∧ (stW r.k r.s).length ≤ 3 := by
    unfold stW
    by_cases c : r.s = 1
    · rw [if_pos c]
      exact ⟨fun w hw => by rw [List.mem_singleton.mp hw]; exact u.2, by simp⟩
    · rw [if_neg c]
      refine ⟨fun w hw => ?_, by simp⟩
      rcases List.mem_cons.mp hw with rfl | h
      · exact ok_c "every" (by simp)
      · rcases List.mem_cons.mp h with rfl | h
        · have := g.s2
          exact ok_nL (by omega)
        · rw [List.mem_singleton.mp h]
          exact u.1
  have lw : (∀ w ∈ laW r.la, okW w) ∧ (laW r.la).length ≤ 2 := by
    cases r.la with
    | none => exact ⟨by simp [laW], by simp [laW]⟩
    | some x =>
      refine ⟨fun w hw => ?_, by simp [laW]⟩
      rcases List.mem_cons.mp hw with rfl | h
      · exact ok_c "until" (by simp)
      · rw [List.mem_singleton.mp h]
        exact ok_dt x
  have bw : (∀ w ∈ butW r.but, okW w) ∧ (butW r.but).length ≤ 32 := by
    unfold butW
    by_cases c : r.but = []
    · rw [if_pos c]
      exact ⟨by simp, by simp⟩
    · rw [if_neg c]
      refine ⟨fun w hw => ?_, by simp; omega⟩
      rcases List.mem_cons.mp hw with rfl | h
      · exact ok_c "but" (by simp)
      · obtain ⟨x, _, rfl⟩ := List.mem_map.mp h
        exact ok_dt x
  refine ⟨fun w hw => ?_, ?_, ?_⟩
  · unfold Ru.ws at hw
    simp only [List.mem_append] at hw
    rcases hw with h | h | h | h | h | h | h
    · exact sw.1 w h
    · exact k1 w h
    · rw [List.mem_singleton.mp h]
      exact ok_c "at" (by simp)
    · obtain ⟨t, _, rfl⟩ := List.mem_map.mp h
      exact ok_tm t
    · rcases List.mem_cons.mp h with rfl | h
      · exact ok_c "from" (by simp)
      · rw [List.mem_singleton.mp h]
        exact ok_dt _
    · exact lw.1 w h
    · exact bw.1 w h
  · have a1 := sw.2
    have a2 := lw.2
    have a3 := bw.2
    simp [Ru.ws]
    omega
  · unfold Ru.ws stW
    by_cases c : r.s = 1
    · rw [if_pos c]
      simp
    · rw [if_neg c]
      simp
theorem join_ws {r : Ru} (g : r.good) : tmV .join [32] (Wl r.ws) = some (.str (joinL [32] r.ws)) ∧ (joinL [32] r.ws).length ≤ 60000 := by
  obtain ⟨h1, h2, _⟩ := ok_ws g
  have s := sum_len fun w hw => (h1 w hw).1
  have l := joinL_len r.ws
  refine ⟨?_, by omega⟩
  show joinT [32] (r.ws.map .str) = _
  unfold joinT
  rw [strsOf_map]
  show (if (r.ws.map (·.length)).sum + r.ws.length * 1 ≤ 16777216 then some (Va.str (joinL [32] r.ws)) else none) = _
  rw [if_pos (by omega)]
theorem read_text (n : Nat) (S : Store) {r : Ru} (g : r.good) : ∃ S', Dx.run (G (n + 8)) d_read [.str (joinL [32] r.ws)] S = .ok r.v S' := by
  obtain ⟨h1, h2, h3⟩ := ok_ws g
  exact ⟨_, read_ok n S g (by omega) h3 (fun w hw => (h1 w hw).2) (join_ws g).2⟩
theorem lstW {α : Type} (l : List α) (T : α → List Nat) : (.lst (l.map fun x => Va.str (T x)) : Va) = Wl (l.map T) := by
  unfold Wl
  rw [List.map_map]
  rfl
theorem ow_len {K : Kd} (h : K ≠ .days) : K.ws.length = 1 + K.ow.length := by
  rw [ow_ws h]
  simp
  omega
theorem written_ok (n : Nat) (S : Store) {r : Ru} (g : r.good) : Dx.run (G (n + 4)) d_written [r.v] S = .ok (.str (joinL [32] r.ws)) S := by
  obtain ⟨jw, _⟩ := join_ws g
  obtain ⟨i, hi⟩ := r.k.mem
  obtain ⟨_, _, _, _, u5, u6, _⟩ := kds _ hi
  obtain ⟨_, kl⟩ := ok_k g.k
  have t3 := g.t3
  have b3 := g.b3
  have s2 := g.s2
  obtain ⟨W1, hW1⟩ : ∃ W1, W1 = stW r.k r.s := ⟨_, rfl⟩
  have l1 : W1.length ≤ 3 := by
    rw [hW1]
    unfold stW
    split <;> simp
  obtain ⟨W2, hW2⟩ : ∃ W2, W2 = W1 ++ r.k.ws := ⟨_, rfl⟩
  have l2 : W2.length ≤ 43 := by
    rw [hW2, List.length_append]
    omega
  obtain ⟨W3, hW3⟩ : ∃ W3, W3 = W2 ++ [wv "at"] ++ r.tm.map tmT ++ [wv "from", r.f.t] := ⟨_, rfl⟩
  have l3 : W3.length ≤ 80 := by
    rw [hW3]
    simp
    omega
  obtain ⟨W4, hW4⟩ : ∃ W4, W4 = W3 ++ laW r.la := ⟨_, rfl⟩
  have l4 : W4.length ≤ 90 := by
    rw [hW4, List.length_append]
    have : (laW r.la).length ≤ 2 := by cases r.la <;> simp [laW]
    omega
  have fin : W4 ++ butW r.but = r.ws := by
    rw [hW4, hW3, hW2, hW1]
    simp [Ru.ws]
  rw [run_d rfl]
  simp only [d_written, k_written]
  simp [k_written_t0, Ru.v]
  have e1 : ∀ s0 s2 s4 s5 s6 s7 s8 s9 s10, s2 = Sl.val (sV r.k.un) → evK (G (n + 4)) k_written_t1 [s0, .no, s2, .val (iV r.s), s4, s5, s6, s7, s8, s9, s10] S = evK (G (n + 4)) k_written_t2 [s0, .val (Wl W1), s2, .val (iV r.s), s4, s5, s6, s7, s8, s9, s10] S := by
    intro s0 s2 s4 s5 s6 s7 s8 s9 s10 hs2
    subst hs2
    by_cases c : r.s = 1
    · have e : stW r.k r.s = [wv r.k.pl] := if_pos c
      rw [hW1, e]
      simp [k_written_t1, iV, c, g_UNITS, g_PLAIN, u5, u6]
      rfl
    · have e : stW r.k r.s = [wv "every", numL r.s, wv r.k.un] := if_neg c
      have c' : ¬ (r.s : Int) = 1 := by omega
      rw [hW1, e]
      simp [k_written_t1, iV, c', c, p_strN (k := r.s) (by omega)]
      rfl
  rw [e1 _ _ _ _ _ _ _ _ _ rfl]
  have e2 : ∀ s0 s3 s5 s6 s7 s8 s9 s10, evK (G (n + 4)) k_written_t2 [s0, .val (Wl W1), .val (sV r.k.un), s3, .val r.k.on, s5, s6, s7, s8, s9, s10] S = evK (G (n + 4)) k_written_t3 [s0, .val (Wl W2), .val (sV r.k.un), s3, .val r.k.on, s5, s6, s7, s8, s9, s10] S := by
    intro s0 s3 s5 s6 s7 s8 s9 s10
    by_cases hd : r.k = .days
    · have ne : co .ne (sV r.k.un) (sV "days") = some (.bl false) := by rw [hd]; decide +kernel
      have : W2 = W1 := by rw [hW2, hd]; simp [Kd.ws]
      rw [this]
      simp [k_written_t2, ne, -q_neV]
    · have ne : co .ne (sV r.k.un) (sV "days") = some (.bl true) := by
        have : r.k.un ∈ ["weeks", "months", "years"] := by
          cases q : r.k <;> first | exact absurd q hd | simp [Kd.un]
        have f : ∀ s ∈ ["weeks", "months", "years"], co .ne (sV s) (sV "days") = some (.bl true) := by decide +kernel
        exact f _ this
      have ol := ow_len hd
      have a1 : b2 .add (Wl W1) (.lst [sV "on"]) = some (Wl (W1 ++ [wv "on"])) := addW (b := [wv "on"]) (by simp; omega)
      have a2 : b2 .add (Wl (W1 ++ [wv "on"])) (Wl r.k.ow) = some (Wl W2) := by
        rw [addW (by simp; omega), hW2, ow_ws hd, List.append_assoc]
      simp [k_written_t2, ne, -q_neV, a1, f_on_text, on_text_ok (n + 2) S g.k hd, a2]
  rw [e2]
  have e3 : evK (G (n + 4)) k_written_t3 [.val r.v, .val (Wl W2), .val (sV r.k.un), .val (iV r.s), .val r.k.on, .val (.tup (r.tm.map iV)), .val (.int r.f.n), .val (laV r.la), .val (.tup (r.but.map fun x => .int x.n)), .no, .no] S = evK (G (n + 4)) k_written_t4 [.val r.v, .val (Wl W3), .val (sV r.k.un), .val (iV r.s), .val r.k.on, .val (.tup (r.tm.map iV)), .val (.int r.f.n), .val (laV r.la), .val (.tup (r.but.map fun x => .int x.n)), .no, .no] S := by
    have a1 : b2 .add (Wl W2) (.lst [sV "at"]) = some (Wl (W2 ++ [wv "at"])) := addW (b := [wv "at"]) (by simp; omega)
    have a2 : b2 .add (Wl (W2 ++ [wv "at"])) (Wl (r.tm.map tmT)) = some (Wl (W2 ++ [wv "at"] ++ r.tm.map tmT)) := addW (by simp; omega)
    have a3 : b2 .add (Wl (W2 ++ [wv "at"] ++ r.tm.map tmT)) (.lst [sV "from", .str r.f.t]) = some (Wl W3) := by
      rw [hW3]
      exact addW (b := [wv "from", r.f.t]) (by simp; omega)
    obtain ⟨X1, hX1⟩ : ∃ X1, X1 = Wl (W2 ++ [wv "at"]) := ⟨_, rfl⟩
    obtain ⟨X2, hX2⟩ : ∃ X2, X2 = Wl (W2 ++ [wv "at"] ++ r.tm.map tmT) := ⟨_, rfl⟩
    rw [← hX1] at a1 a2
    rw [← hX2] at a2 a3
    simp [k_written_t3, a1]
    rw [lcW_onY iV (fun t => .str (tmT t)) (le_line (by omega)) fun t ht => ⟨_, rfl, by simp [wipeE, iV, f_time_text, time_text_ok (n + 2) S (g.t2 t ht)]⟩, lstW]
    simp [a2, f_date_text, date_text_ok n S g.f, a3]
  have hv : r.v = .tup [sV r.k.un, iV r.s, r.k.on, .tup (r.tm.map iV), .int r.f.n, laV r.la, .tup (r.but.map fun x => .int x.n)] := rfl
  rw [hv] at e3
  rw [e3, ← hv]
  have e4 : evK (G (n + 4)) k_written_t4 [.val r.v, .val (Wl W3), .val (sV r.k.un), .val (iV r.s), .val r.k.on, .val (.tup (r.tm.map iV)), .val (.int r.f.n), .val (laV r.la), .val (.tup (r.but.map fun x => .int x.n)), .no, .no] S = evK (G (n + 4)) k_written_t5 [.val r.v, .val (Wl W4), .val (sV r.k.un), .val (iV r.s), .val r.k.on, .val (.tup (r.tm.map iV)), .val (.int r.f.n), .val (laV r.la), .val (.tup (r.but.map fun x => .int x.n)), .no, .no] S := by
    cases hla : r.la with
    | none =>
      have : W4 = W3 := by rw [hW4, hla]; simp [laW]
      rw [this]
      simp [k_written_t4, laV]
    | some x =>
      obtain ⟨hx, _⟩ := g.la x hla
      have a1 : b2 .add (Wl W3) (.lst [sV "until", .str x.t]) = some (Wl W4) := by
        rw [hW4, hla]
        exact addW (b := [wv "until", x.t]) (by simp; omega)
      simp [k_written_t4, laV, f_date_text, date_text_ok n S hx, a1]
  rw [e4]
  have e5 : evK (G (n + 4)) k_written_t5 [.val r.v, .val (Wl W4), .val (sV r.k.un), .val (iV r.s), .val r.k.on, .val (.tup (r.tm.map iV)), .val (.int r.f.n), .val (laV r.la), .val (.tup (r.but.map fun x => .int x.n)), .no, .no] S = evK (G (n + 4)) k_written_t6 [.val r.v, .val (Wl r.ws), .val (sV r.k.un), .val (iV r.s), .val r.k.on, .val (.tup (r.tm.map iV)), .val (.int r.f.n), .val (laV r.la), .val (.tup (r.but.map fun x => .int x.n)), .no, .no] S := by
    have cb : cl 8 (.tup (r.but.map fun x => Va.int x.n)) = true := by simp
    by_cases c : r.but = []
    · have : W4 = r.ws := by
        rw [← fin, c]
        simp [butW]
      rw [this]
      have ne : co .ne (.tup []) (.tup []) = some (.bl false) := by decide +kernel
      simp [k_written_t5, c, ne, -q_neV]
    · have ne : co .ne (.tup (r.but.map fun x => Va.int x.n)) (.tup []) = some (.bl true) := by
        rw [q_neV cb rfl]
        cases q : r.but with
        | nil => exact absurd q c
        | cons a l => simp
      have a1 : b2 .add (Wl W4) (.lst [sV "but"]) = some (Wl (W4 ++ [wv "but"])) := addW (b := [wv "but"]) (by simp; omega)
      have a2 : b2 .add (Wl (W4 ++ [wv "but"])) (Wl (r.but.map Dy.t)) = some (Wl r.ws) := by
        rw [addW (by simp; omega), ← fin]
        unfold butW
        rw [if_neg c]
        simp
      obtain ⟨X1, hX1⟩ : ∃ X1, X1 = Wl (W4 ++ [wv "but"]) := ⟨_, rfl⟩
      rw [← hX1] at a1 a2
      simp [k_written_t5, ne, -q_neV, a1]
      rw [lcW_onY (fun x : Dy => .int x.n) (fun x => .str x.t) (le_line (by omega)) fun x hx => ⟨_, rfl, by simp [wipeE, f_date_text, date_text_ok n S (g.b2 x hx)]⟩, lstW]
      simp [a2]
  rw [e5]
  simp [k_written_t6, sV_sp, jw]
end Wk50
end
section
namespace Wk50
open PySem PySem.Spec PyProof.Rows L2 Mi
open TL
/-! alarms: numbers, windows, names -/
theorem intN {v : Nat} (h : v < 100000) : pr .int [.str (numL v)] = some (.int (v : Int)) := by
  have l := numL_len (n := v) (k := 5) (by decide) (by show v < 100000; exact h)
  have e := int_num (n := v) (by omega)
  have z := numZ_ok (v : Int)
  have zz : numZ (v : Int) = numL v := by
    unfold numZ
    rw [if_pos (by omega)]
    rfl
  rw [zz] at z
  rw [z] at e
  show (one vInt [.str (numL v)]).or (one vIntS [.str (numL v)]) = _
  have a : one vInt [.str (numL v)] = none := rfl
  have b : one vIntS [.str (numL v)] = some (.int (v : Int)) := by
    show (if (numL v).length ≤ 640 then (intText? (mkT (numL v))).map Va.int else none) = _
    rw [if_pos (by omega), e]
    rfl
  rw [a, b]
  rfl
theorem numL_D (v : Nat) : (numL v).all isD = true := by
  rw [List.all_eq_true]
  intro c hc
  have := numL_digits v c hc
  have e : c = 48 + (c - 48) := by omega
  rw [e]
  exact isD_of _ (by omega)
theorem numL_hd : ∀ v, 1 ≤ v → ∃ c r, numL v = c :: r ∧ c ≠ 48 ∧ c < 1114112 := by
  intro v
  induction v using Nat.strongRecOn with
  | _ v ih =>
    intro h
    by_cases c : v < 10
    · exact ⟨48 + v, [], numL_lt c, by omega, by omega⟩
    · obtain ⟨a, r, e, h1, h2⟩ := ih (v / 10) (by omega) (by omega)
      exact ⟨a, r ++ [48 + v % 10], by rw [numL_step (by omega), e]; rfl, h1, h2⟩
theorem ck_nL (v : Nat) : ck (numL v) = true := by
  unfold ck
  rw [List.all_eq_true]
  intro c hc
  have := numL_digits v c hc
  exact decide_eq_true (by omega)
theorem nlf {v : Nat} (h1 : 1 ≤ v) (h : v < 100000) : figB (numL v) = true ∧ (∃ c, vIx (.str (numL v)) (.int 0) = some (.str [c]) ∧ co .eq (.str [c]) (.str [48]) = some (.bl false)) ∧ co .eq (.str (numL v)) (.str [48]) = some (.bl false) ∧ co .ne (.str (numL v)) (.str [48]) = some (.bl true) := by
  have l := numL_len (n := v) (k := 5) (by decide) (by show v < 100000; exact h)
  have ne := numL_ne v
  have l1 : 1 ≤ (numL v).length := List.length_pos_iff.mpr ne
  obtain ⟨c, r, e, h2, h3⟩ := numL_hd v h1
  have ne2 : ¬ numL v = [48] := fun q => by
    rw [e] at q
    exact h2 (List.cons.inj q).1
  refine ⟨?_, ⟨c, ?_, ?_⟩, ?_, ?_⟩
  · unfold figB
    simp [l, l1, numL_D]
  · rw [e] at l ⊢
    show (if (c :: r).length ≤ sizeLine then (atI (c :: r) 0).map fun c => Va.str [c] else none) = _
    rw [if_pos (Nat.le_trans l (by decide)), at_0]
    rfl
  · rw [eqS (by simp [ck, h3]) (by decide)]
    simp [h2]
  · rw [eqS (ck_nL v) (by decide)]
    simp [ne2]
  · rw [neS (ck_nL v) (by decide)]
    simp [ne2]
theorem nL0 : numL 0 = [48] := rfl
theorem f_is_name (n : Nat) : (G (n + 1)).fn "is_name" = some (Dx.run (G n) d_is_name) := rfl
theorem f_read_number (n : Nat) : (G (n + 1)).fn "read_number" = some (Dx.run (G n) d_read_number) := rfl
theorem f_read_window (n : Nat) : (G (n + 1)).fn "read_window" = some (Dx.run (G n) d_read_window) := rfl
theorem f_read_catch (n : Nat) : (G (n + 1)).fn "read_catch" = some (Dx.run (G n) d_read_catch) := rfl
theorem f_read_name (n : Nat) : (G (n + 1)).fn "read_name" = some (Dx.run (G n) d_read_name) := rfl
theorem f_is_within (n : Nat) : (G (n + 1)).fn "is_within" = some (Dx.run (G n) d_is_within) := rfl
theorem f_read_at (n : Nat) : (G (n + 1)).fn "read_at" = some (Dx.run (G n) d_read_at) := rfl
theorem f_read_kind_alarms (n : Nat) : (G (n + 1)).fn "read_kind_alarms" = some (Dx.run (G n) d_read_kind_alarms) := rfl
theorem f_read_alarm (n : Nat) : (G (n + 1)).fn "read_alarm" = some (Dx.run (G n) d_read_alarm) := rfl
theorem f_window_of (n : Nat) : (G (n + 1)).fn "window_of" = some (Dx.run (G n) d_window_of) := rfl
theorem f_alarm_text (n : Nat) : (G (n + 1)).fn "alarm_text" = some (Dx.run (G n) d_alarm_text) := rfl
def LET : List Nat := "abcdefghijklmnopqrstuvwxyz".toList.map Char.toNat
theorem g_LETTERS (n : Nat) : (G n).glo "LETTERS" = some (.str LET) := by cases n <;> rfl
theorem g_MOST_NAME (n : Nat) : (G n).glo "MOST_NAME" = some (.int 8) := by cases n <;> rfl
theorem g_MOST (n : Nat) : (G n).glo "MOST" = some (.int 99999) := by cases n <;> rfl
theorem g_CATCHES (n : Nat) : (G n).glo "CATCHES" = some (.tup [sV "each", sV "one"]) := by cases n <;> rfl
theorem g_DAY (n : Nat) : (G n).glo "DAY" = some (.int 1440) := by cases n <;> rfl
theorem g_FYA (n : Nat) : (G n).glo "FIRST_YEAR_alarms" = some (.int 10) := by cases n <;> rfl
theorem g_LYA (n : Nat) : (G n).glo "LAST_YEAR_alarms" = some (.int 9990) := by cases n <;> rfl
def nmB (l : List Nat) : Bool := decide (1 ≤ l.length) && (decide (l.length ≤ 8) && l.all fun c => decide (c ∈ LET))
theorem is_name_ok (n : Nat) {l : List Nat} (S : Store) (h : nmB l = true) : Dx.run (G n) d_is_name [.str l] S = .ok (.bl true) S := by
  unfold nmB at h
  simp only [Bool.and_eq_true, decide_eq_true_eq] at h
  obtain ⟨h1, h2, h3⟩ := h
  have h1' : (1 : Int) ≤ l.length := by omega
  have h2' : (l.length : Int) ≤ 8 := by omega
  rw [run_d rfl]
  simp [d_is_name, k_is_name, len_ok (Nat.le_trans h2 (by decide)), items_str, g_MOST_NAME, h1', h2']
  rw [lcW_onY (fun c : Nat => Va.str [c]) (fun c => .bl (decide (c ∈ LET))) (le_line (by omega)) fun c _ => ⟨_, rfl, by simp [wipeE, g_LETTERS, q_inS]⟩]
  simp [all_bl, h3]
section
variable {S : Store} {ws : List (List Nat)} {k : Nat}
theorem number2_ok (n : Nat) {v : Nat} {lo hi : Int} (h : k ≤ ws.length) (hw : see ws k = numL v) (h1 : 1 ≤ v) (h2 : v < 100000) (h3 : lo ≤ (v : Int)) (h4 : (v : Int) ≤ hi) : Dx.run (G (n + 1)) d_Words_number [.ref S.length, .int lo, .int hi] (st S ws k) = .ok (.int (v : Int)) (st S ws (k + 1)) := by
  obtain ⟨f, ⟨c, hx, he⟩, _⟩ := nlf h1 h2
  have l := numL_len (n := v) (k := 5) (by decide) (by show v < 100000; exact h2)
  have q := is_figures_ok n (l := numL v) (st S ws k) (by omega)
  rw [f] at q
  rw [run_d rfl]
  simp [d_Words_number, k_Words_number, m_sees, sees_ok n h, hw, f_is_figures, q, hx, sV_0, he, intN h2, h3, h4, setFM_e (sA (n + 1))]
theorem read_number_ok (n : Nat) {v : Nat} {lo : Int} (h : k ≤ ws.length) (hw : see ws k = numL v) (h1 : lo = 0 ∨ (lo = 1 ∧ 1 ≤ v)) (h2 : v < 100000) : Dx.run (G (n + 2)) d_read_number [.ref S.length, .int lo] (st S ws k) = .ok (.int (v : Int)) (st S ws (k + 1)) := by
  rw [run_d rfl]
  by_cases c : v = 0
  · subst c
    have hl : lo = 0 := by omega
    subst hl
    have e : co .eq (.str [48]) (.str [48]) = some (.bl true) := by decide +kernel
    rw [nL0] at hw
    simp [d_read_number, k_read_number, m_sees, sees_ok (n + 1) h, hw, sV_0, e, -q_eqV, m_next, next_ok n h]
  · obtain ⟨_, _, e, _⟩ := nlf (v := v) (by omega) h2
    have q := number2_ok (S := S) n (lo := 1) (hi := 99999) h hw (by omega) h2 (by omega) (by omega)
    have mx : pr .max [.int 1, .int lo] = some (.int 1) := by
      rcases h1 with rfl | ⟨rfl, _⟩ <;> rfl
    simp [d_read_number, k_read_number, m_sees, sees_ok (n + 1) h, hw, sV_0, e, -q_eqV, mx, g_MOST, m_number, q]
/-- the words of a window, and what they tell -/
def wwW (al : Bool) (w : Nat) : List (List Nat) := if al = true then [] else [wv "window", numL w]
def wwV (al : Bool) (w : Nat) : Va := if al = true then .non else iV w
theorem read_window_ok (n : Nat) {al : Bool} {w : Nat} {most : Int} {M : List (List Nat)} (hD : Dp ws k (wwW al w ++ M)) (h : w < 100000) (hm : al = false → (w : Int) ≤ most) : Dx.run (G (n + 3)) d_read_window [.ref S.length, .bl al, .int most] (st S ws k) = .ok (wwV al w) (st S ws (k + (wwW al w).length)) := by
  rw [run_d rfl]
  cases al with
  | true => simp [d_read_window, k_read_window, wwV, wwW]
  | false =>
    have hD : Dp ws k (wv "window" :: (numL w :: M)) := hD
    have D1 := hD.next
    have hw : see ws (k + 1) = numL w := D1.hd
    have q1 := wants2 (S := S) (n + 1) (s := "window") hD (by decide)
    have q2 := read_number_ok (S := S) n (lo := 0) D1.1 hw (.inl rfl) h
    by_cases c : w = 0
    · subst c
      have e : co .ne (.str [48]) (.str [48]) = some (.bl false) := by decide +kernel
      rw [nL0] at hw
      simp [d_read_window, k_read_window, m_wants, q1, m_sees, sees_ok (n + 2) D1.1, hw, sV_0, e, -q_neV, f_read_number, q2, wwV, wwW, iV]
    · obtain ⟨f, _, _, e⟩ := nlf (v := w) (by omega) h
      have l := numL_len (n := w) (k := 5) (by decide) (by show w < 100000; exact h)
      have q := is_figures_ok (n + 2) (l := numL w) (st S ws (k + 1)) (by omega)
      rw [f] at q
      have hm := hm rfl
      have hg : ¬ most < (w : Int) := by omega
      simp [d_read_window, k_read_window, m_wants, q1, m_sees, sees_ok (n + 2) D1.1, hw, sV_0, e, -q_neV, f_is_figures, q, intN h, hg, f_read_number, q2, wwV, wwW, iV]
def isC (c : List Nat) : Prop := c = wv "each" ∨ c = wv "one"
def isN (c : List Nat) : Prop := c = wv "home" ∨ c = wv "far"
theorem read_catch_ok (n : Nat) {c : List Nat} {M : List (List Nat)} (hD : Dp ws k (c :: M)) (hc : isC c) : Dx.run (G (n + 2)) d_read_catch [.ref S.length] (st S ws k) = .ok (.str c) (st S ws (k + 1)) := by
  have hw : see ws k = c := hD.hd
  have e : co .notin (.str c) (.tup [sV "each", sV "one"]) = some (.bl false) := by
    rcases hc with rfl | rfl <;> decide +kernel
  rw [run_d rfl]
  simp [d_read_catch, k_read_catch, m_sees, sees_ok (n + 1) hD.1, hw, g_CATCHES, e, -q_ni_tup, m_next, next_ok n hD.1]
theorem read_name_ok (n : Nat) {c : List Nat} {M : List (List Nat)} (hD : Dp ws k (c :: M)) (hc : isN c) : Dx.run (G (n + 2)) d_read_name [.ref S.length] (st S ws k) = .ok (.str c) (st S ws (k + 1)) := by
  have hw : see ws k = c := hD.hd
  have e : nmB c = true := by
    rcases hc with rfl | rfl <;> decide +kernel
  have q := is_name_ok (n + 1) (st S ws k) e
  rw [run_d rfl]
  simp [d_read_name, k_read_name, m_sees, sees_ok (n + 1) hD.1, hw, f_is_name, q, m_next, next_ok n hD.1]
end
theorem dA : dayN 10 1 1 = -726832 := by decide +kernel
theorem dB : dayN 9991 1 1 = 2918653 := by decide +kernel
theorem bef_2000' : bef 2000 = 730119 := by decide +kernel
theorem bef_2100' : bef 2100 = 766644 := by decide +kernel
end Wk50
end
section
namespace Wk50
open PySem PySem.Spec PyProof.Rows L2 Mi
open TL
/-! alarms by value -/
inductive Ak where
  | after (v : Nat) | every (s f : Nat) (c : List Nat) | at_ (nm : List Nat) (d : Dy) (t : Nat) | by_ (nm c : List Nat) (r : Ru)
structure Al where
  al : Bool
  w : Nat
  k : Ak
def Ak.good (al : Bool) (w : Nat) : Ak → Prop
  | .after v => v < 100000
  | .every s f c => 1 ≤ s ∧ s < 100000 ∧ f < 100000 ∧ isC c ∧ (al = false → w + 1 ≤ s)
  | .at_ nm d t => isN nm ∧ d.ok ∧ t < 1440
  | .by_ nm c r => isN nm ∧ isC c ∧ r.good
def Al.good (a : Al) : Prop := a.w < 100000 ∧ a.k.good a.al a.w
def Ak.v (ww : Va) : Ak → Va
  | .after v => .tup [sV "after", iV v, ww]
  | .every s f c => .tup [sV "every", iV s, iV f, ww, .str c]
  | .at_ nm d t => .tup [sV "at", .str nm, .int (1440 * d.n + t), ww]
  | .by_ nm c r => .tup [sV "by", .str nm, r.v, ww, .str c]
def Al.v (a : Al) : Va := a.k.v (wwV a.al a.w)
def Ak.ws (ww : List (List Nat)) : Ak → List (List Nat)
  | .after v => wv "after" :: numL v :: ww
  | .every s f c => wv "every" :: numL s :: wv "first" :: numL f :: (ww ++ [c])
  | .at_ nm d t => wv "at" :: nm :: d.t :: tmT t :: ww
  | .by_ nm c r => wv "by" :: nm :: (ww ++ (c :: wv "when" :: r.ws))
def alW (al : Bool) : List (List Nat) := if al = true then [wv "along"] else []
def Al.ws (a : Al) : List (List Nat) := alW a.al ++ a.k.ws (wwW a.al a.w)
theorem Dy.rng {x : Dy} (h : x.ok) : 0 ≤ x.n ∧ x.n < 40000 := by
  obtain ⟨y1, y2⟩ := h.2.year
  have hy := h.1
  have b0 := bef_2000'
  have b1 := bef_2100'
  have c1 := bef_le (y := 2000) (z := ((2000 + x.y : Nat) : Int)) (by omega)
  have c2 := bef_le (y := ((2000 + x.y : Nat) : Int) + 1) (z := 2100) (by omega)
  have e : x.n = dayN ((2000 + x.y : Nat) : Int) x.m x.d := rfl
  rw [← e] at y1 y2
  omega
theorem is_within_ok (n : Nat) {m : Int} (S : Store) (h0 : 0 ≤ m) (h1 : m < 100000000) : Dx.run (G (n + 3)) d_is_within [.int m] S = .ok (.bl true) S := by
  have i1 : IsDate 10 1 1 := ⟨by decide, by decide, by decide, by decide, by decide, by decide⟩
  have i2 : IsDate 9991 1 1 := ⟨by decide, by decide, by decide, by decide, by decide, by decide⟩
  have q1 := day_of_ok n S i1
  have q2 := day_of_ok n S i2
  rw [dA] at q1
  rw [dB] at q2
  have c1 : 1440 * (-726832 : Int) ≤ m := by omega
  have c2 : m < 1440 * (2918653 : Int) := by omega
  rw [run_d rfl]
  simp [d_is_within, k_is_within, g_DAY, g_FYA, g_LYA, f_day_of, q1, q2, q_mul]
  omega
section
variable {S : Store} {ws : List (List Nat)} {k : Nat}
theorem read_at_ok (n : Nat) {al : Bool} {w t : Nat} {nm : List Nat} {d : Dy} {M : List (List Nat)} (hn : isN nm) (hd : d.ok) (ht : t < 1440) (hw : w < 100000) (hD : Dp ws k (nm :: d.t :: tmT t :: (wwW al w ++ M))) : Dx.run (G (n + 5)) d_read_at [.ref S.length, .bl al] (st S ws k) = .ok ((Ak.at_ nm d t).v (wwV al w)) (st S ws (k + 3 + (wwW al w).length)) := by
  have D1 := hD.next
  have D2 := D1.next
  have D3 := D2.next
  have w1 : see ws (k + 1) = d.t := D1.hd
  have w2 : see ws (k + 1 + 1) = tmT t := D2.hd
  have q1 := read_name_ok (S := S) (n + 2) hD hn
  have q2 := Dy.read (n + 1) (st S ws (k + 1)) hd
  have r := Dy.rng hd
  have q3 := is_within_ok (n + 1) (m := 1440 * d.n) (st S ws (k + 1)) (by omega) (by omega)
  have q4 := time_ok (n + 3) (st S ws (k + 1 + 1)) ht
  have q5 := read_window_ok (S := S) (n + 1) (most := 99999) D3 hw (fun _ => by omega)
  rw [run_d rfl]
  simp [d_read_at, k_read_at, f_read_name, q1, m_sees, sees_ok (n + 4) D1.1, w1, f_date_in, q2, g_DAY, q_mul, f_is_within, q3, m_next, next_ok (n + 3) D1.1, sees_ok (n + 4) D2.1, w2, f_time_of, q4, next_ok (n + 3) D2.1, g_MOST, f_read_window, q5, Ak.v]
theorem kd4 : ∀ s ∈ ["after", "every", "at", "by"], co .notin (.str (wv s)) (.tup [sV "after", sV "every", sV "at", sV "by"]) = some (.bl false) ∧ co .eq (.str (wv s)) (sV "after") = some (.bl (s == "after")) ∧ co .eq (.str (wv s)) (sV "every") = some (.bl (s == "every")) ∧ co .eq (.str (wv s)) (sV "at") = some (.bl (s == "at")) := by decide +kernel
theorem read_kind_alarms_ok (n : Nat) {al : Bool} {w : Nat} {K : Ak} (hl : ws.length ≤ 1000) (hg : K.good al w) (hw : w < 100000) (hD : Dp ws k (K.ws (wwW al w))) : Dx.run (G (n + 8)) d_read_kind_alarms [.ref S.length, .bl al] (st S ws k) = .ok (K.v (wwV al w)) (st S ws ws.length) := by
  rw [run_d rfl]
  simp only [d_read_kind_alarms, k_read_kind_alarms]
  have hlen := hD.len
  cases K with
  | after v =>
    have hD : Dp ws k (wv "after" :: numL v :: wwW al w) := hD
    have w0 : see ws k = wv "after" := hD.hd
    have D1 := hD.next
    have w1 : see ws (k + 1) = numL v := D1.hd
    have D2 : Dp ws (k + 1 + 1) (wwW al w ++ []) := by rw [List.append_nil]; exact D1.next
    obtain ⟨e1, e2, e3, e4⟩ := kd4 "after" (by simp)
    have q1 := read_number_ok (S := S) (n + 5) (lo := 0) D1.1 w1 (.inl rfl) hg
    have q2 := read_window_ok (S := S) (n + 4) (most := 99999) D2 hw (fun _ => by omega)
    have el : k + 1 + 1 + (wwW al w).length = ws.length := by
      simp only [Ak.ws, List.length_cons] at hlen
      omega
    rw [el] at q2
    simp [k_read_kind_alarms_t0, m_sees, sees_ok (n + 7) hD.1, w0, k_read_kind_alarms_t1, e1, -q_ni_tup, k_read_kind_alarms_t2, m_next, next_ok (n + 6) hD.1, k_read_kind_alarms_t3, e2, -q_eqV, f_read_number, q1, g_MOST, f_read_window, q2, Ak.v, iV]
  | every s f c =>
    obtain ⟨g1, g2, g3, g4, g5⟩ := hg
    have hD : Dp ws k (wv "every" :: numL s :: wv "first" :: numL f :: (wwW al w ++ [c])) := hD
    have w0 : see ws k = wv "every" := hD.hd
    have D1 := hD.next
    have w1 : see ws (k + 1) = numL s := D1.hd
    have D2 := D1.next
    have D3 := D2.next
    have w3 : see ws (k + 1 + 1 + 1) = numL f := D3.hd
    have D4 := D3.next
    have D5 := D4.app
    obtain ⟨e1, e2, e3, e4⟩ := kd4 "every" (by simp)
    have q1 := read_number_ok (S := S) (n + 5) (lo := 1) D1.1 w1 (.inr ⟨rfl, g1⟩) g2
    have q2 := wants2 (S := S) (n + 6) (s := "first") D2 (by decide)
    have q3 := read_number_ok (S := S) (n + 5) (lo := 0) D3.1 w3 (.inl rfl) g3
    have q4 := read_window_ok (S := S) (n + 4) (most := (s : Int) - 1) D4 hw (fun h => by have := g5 h; omega)
    have q5 := read_catch_ok (S := S) (n + 5) D5 g4
    have el : k + 1 + 1 + 1 + 1 + (wwW al w).length + 1 = ws.length := by
      simp only [Ak.ws, List.length_cons, List.length_append, List.length_nil] at hlen
      omega
    rw [el] at q5
    simp [k_read_kind_alarms_t0, m_sees, sees_ok (n + 7) hD.1, w0, k_read_kind_alarms_t1, e1, -q_ni_tup, k_read_kind_alarms_t2, m_next, next_ok (n + 6) hD.1, k_read_kind_alarms_t3, e2, e3, -q_eqV, k_read_kind_alarms_t4, f_read_number, q1, m_wants, q2, q3, f_read_window, q4, f_read_catch, q5, Ak.v, iV]
  | at_ nm d t =>
    obtain ⟨g1, g2, g3⟩ := hg
    have hD : Dp ws k (wv "at" :: nm :: d.t :: tmT t :: wwW al w) := hD
    have w0 : see ws k = wv "at" := hD.hd
    have D1 : Dp ws (k + 1) (nm :: d.t :: tmT t :: (wwW al w ++ [])) := by rw [List.append_nil]; exact hD.next
    obtain ⟨e1, e2, e3, e4⟩ := kd4 "at" (by simp)
    have q1 := read_at_ok (S := S) (n + 2) g1 g2 g3 hw D1
    have el : k + 1 + 3 + (wwW al w).length = ws.length := by
      simp only [Ak.ws, List.length_cons] at hlen
      omega
    rw [el] at q1
    simp [k_read_kind_alarms_t0, m_sees, sees_ok (n + 7) hD.1, w0, k_read_kind_alarms_t1, e1, -q_ni_tup, k_read_kind_alarms_t2, m_next, next_ok (n + 6) hD.1, k_read_kind_alarms_t3, e2, e3, e4, -q_eqV, k_read_kind_alarms_t4, k_read_kind_alarms_t5, f_read_at, q1]
  | by_ nm c r =>
    obtain ⟨g1, g2, g3⟩ := hg
    have hD : Dp ws k (wv "by" :: nm :: (wwW al w ++ (c :: wv "when" :: r.ws))) := hD
    have w0 : see ws k = wv "by" := hD.hd
    have D1 := hD.next
    have D2 := D1.next
    have D3 := D2.app
    have D4 := D3.next
    have D5 := D4.next
    obtain ⟨e1, e2, e3, e4⟩ := kd4 "by" (by simp)
    have q1 := read_name_ok (S := S) (n + 5) D1 g1
    have q2 := read_window_ok (S := S) (n + 4) (most := 99999) D2 hw (fun _ => by omega)
    have q3 := read_catch_ok (S := S) (n + 5) D3 g2
    have q4 := wants2 (S := S) (n + 6) (s := "when") D4 (by decide)
    have q5 := read_rule_at n S g3 hl D5
    simp [k_read_kind_alarms_t0, m_sees, sees_ok (n + 7) hD.1, w0, k_read_kind_alarms_t1, e1, -q_ni_tup, k_read_kind_alarms_t2, m_next, next_ok (n + 6) hD.1, k_read_kind_alarms_t3, e2, e3, e4, -q_eqV, k_read_kind_alarms_t4, k_read_kind_alarms_t5, k_read_kind_alarms_t6, f_read_name, q1, k_read_kind_alarms_t7, g_MOST, f_read_window, q2, k_read_kind_alarms_t8, f_read_catch, q3, k_read_kind_alarms_t9, m_wants, q4, k_read_kind_alarms_t10, f_read_rule, q5, Ak.v]
end
theorem k_tryW {γ : Ga} {t : String} {i j : Nat} {b : Ks} {env : Evn} {S : Store} : evK γ (.tryW t i j b) env S = tryWR γ.sub t i j (evK γ b env S) := rfl
theorem tryW_nx {sub : String → String → Option Bool} {t : String} {i j : Nat} {env : Evn} {S : Store} : tryWR sub t i j (.nx env S) = .nx env S := rfl
theorem Ak.v_is {K : Ak} {ww : Va} : co .is (K.v ww) .non = some (.bl false) := by cases K <;> rfl
theorem along_no {K : Ak} {ww : List (List Nat)} : ∃ s ∈ ["after", "every", "at", "by"], (K.ws ww).headD [] = wv s := by
  cases K
  · exact ⟨"after", by simp, rfl⟩
  · exact ⟨"every", by simp, rfl⟩
  · exact ⟨"at", by simp, rfl⟩
  · exact ⟨"by", by simp, rfl⟩
theorem al4 : ∀ s ∈ ["after", "every", "at", "by"], co .eq (.str (wv s)) (sV "along") = some (.bl false) := by decide +kernel
theorem read_alarm_ok (n : Nat) (S : Store) {a : Al} (g : a.good) (hl : a.ws.length ≤ 1000) (hn : a.ws ≠ []) (hs : ∀ w ∈ a.ws, (32 : Nat) ∉ w) (hz : (joinL [32] a.ws).length ≤ 60000) : Dx.run (G (n + 9)) d_read_alarm [.str (joinL [32] a.ws)] S = .ok a.v (st S a.ws a.ws.length) := by
  have sp : tmV .split (joinL [32] a.ws) (.str [32]) = some (.lst (a.ws.map .str)) := by
    show splitT _ _ = _
    unfold splitT
    rw [if_pos ⟨by simp, by decide, Nat.le_trans (Nat.add_le_add_right hz 2) (by decide)⟩, spl_join hn hs]
  have h1 := (fl_W (n + 8)).1
  have h2 := (fl_W (n + 8)).2
  have s1 : setFld (G (n + 8)).fld (S ++ [.ins "Words" []]) (.ref S.length) (.lst (a.ws.map .str)) "words" = some (S ++ [.ins "Words" [("words", .lst (a.ws.map .str))]]) := by
    simp [setFld, h1, putS]
  have s2 : setFld (G (n + 8)).fld (S ++ [.ins "Words" [("words", .lst (a.ws.map .str))]]) (.ref S.length) (.int 0) "at" = some (st S a.ws 0) := by
    simp [setFld, h2, putS, st, wdO]
  have nw : Dx.run (G (n + 8)) d_Words_init [.ref S.length, .str (joinL [32] a.ws)] (S ++ [.ins "Words" []]) = .ok .non (st S a.ws 0) := by
    rw [run_d rfl]
    simp [d_Words_init, k_Words_init, sV_sp, sp, setFM_e s1, setFM_e s2]
  obtain ⟨ws, hws⟩ : ∃ ws, ws = a.ws := ⟨_, rfl⟩
  have D0 : Dp ws 0 (alW a.al ++ a.k.ws (wwW a.al a.w)) := ⟨Nat.zero_le _, by rw [hws]; rfl⟩
  rw [← hws] at hl nw ⊢
  have D1 := D0.app
  have q := read_kind_alarms_ok (S := S) n hl g.2 g.1 D1
  rw [run_d rfl]
  simp only [d_read_alarm, k_read_alarm]
  simp [k_read_alarm_t0, i_Words, nw, k_read_alarm_t1, k_read_alarm_t2, k_read_alarm_t3, k_tryW]
  have hv : a.v = a.k.v (wwV a.al a.w) := rfl
  have is := Ak.v_is (K := a.k) (ww := wwV a.al a.w)
  cases hal : a.al with
  | true =>
    rw [hal] at D0 D1 q is hv
    have w0 : see ws 0 = wv "along" := D0.hd
    have e := eq_ye (s := "along") (by decide)
    have q : Dx.run (G (n + 8)) d_read_kind_alarms [.ref S.length, .bl true] (st S ws 1) = .ok (a.k.v (wwV true a.w)) (st S ws ws.length) := q
    have nx : Dx.run (G (n + 8)) d_Words_next_word [.ref S.length] (st S ws 0) = .ok (.str (see ws 0)) (st S ws 1) := next_ok (n + 7) D0.1
    simp [m_sees, sees_ok (n + 8) D0.1, w0, e, -q_eqV, m_next, nx, f_read_kind_alarms, q, tryW_nx, k_read_alarm_t4, k_read_alarm_t5, is, hv]
  | false =>
    rw [hal] at D0 D1 q is hv
    obtain ⟨s, s1, s2⟩ := along_no (K := a.k) (ww := wwW false a.w)
    have D0 : Dp ws 0 (a.k.ws (wwW false a.w)) := D0
    have w0 : see ws 0 = wv s := by
      have := D0.hd
      rw [s2] at this
      exact this
    have e := al4 s s1
    have q : Dx.run (G (n + 8)) d_read_kind_alarms [.ref S.length, .bl false] (st S ws 0) = .ok (a.k.v (wwV false a.w)) (st S ws ws.length) := q
    simp [m_sees, sees_ok (n + 8) D0.1, w0, e, -q_eqV, f_read_kind_alarms, q, tryW_nx, k_read_alarm_t4, k_read_alarm_t5, is, hv]
end Wk50
end
section
namespace Wk50
open PySem PySem.Spec PyProof.Rows L2 Mi
open TL
theorem join_of {L : List (List Nat)} (h : ∀ w ∈ L, okW w) (hl : L.length ≤ 300) : tmV .join [32] (Wl L) = some (.str (joinL [32] L)) ∧ (joinL [32] L).length ≤ 60000 := by
  have s := sum_len fun w hw => (h w hw).1
  have l := joinL_len L
  refine ⟨?_, by omega⟩
  show joinT [32] (L.map .str) = _
  unfold joinT
  rw [strsOf_map]
  show (if (L.map (·.length)).sum + L.length * 1 ≤ 16777216 then some (Va.str (joinL [32] L)) else none) = _
  rw [if_pos (by omega)]
theorem joinL_cons {p : List Nat} : ∀ {L : List (List Nat)}, L ≠ [] → joinL [32] (p :: L) = p ++ 32 :: joinL [32] L
  | [], h => absurd rfl h
  | _ :: _, _ => rfl
theorem joinL_last {B : List (List Nat)} (hB : B ≠ []) : ∀ A : List (List Nat), joinL [32] (A ++ [joinL [32] B]) = joinL [32] (A ++ B)
  | [] => rfl
  | p :: A => by
    rw [List.cons_append, List.cons_append, joinL_cons (by simp), joinL_cons (by simp [hB]), joinL_last hB A]
/-- a last text that is long -/
theorem join_long {A B : List (List Nat)} (hA : ∀ w ∈ A, okW w) (hl : A.length ≤ 20) (hB : ∀ w ∈ B, okW w) (hb : B.length ≤ 200) (hn : B ≠ []) : tmV .join [32] (.lst (A.map .str ++ [.str (joinL [32] B)])) = some (.str (joinL [32] (A ++ B))) := by
  have s := sum_len fun w hw => (hA w hw).1
  have l := (join_of hB (by omega)).2
  have e : (A.map Va.str ++ [Va.str (joinL [32] B)]) = (A ++ [joinL [32] B]).map Va.str := by simp
  rw [e]
  show joinT [32] ((A ++ [joinL [32] B]).map .str) = _
  unfold joinT
  rw [strsOf_map]
  show (if ((A ++ [joinL [32] B]).map (·.length)).sum + (A ++ [joinL [32] B]).length * 1 ≤ 16777216 then some (Va.str (joinL [32] (A ++ [joinL [32] B]))) else none) = _
  rw [if_pos (by
    rw [List.map_append, List.sum_append, List.length_append]
    simp
    omega), joinL_last hn]
theorem ok_nL5 {v : Nat} (h : v < 100000) : okW (numL v) := ⟨by have := numL_len (n := v) (k := 5) (by decide) (by show v < 100000; exact h); omega, numL_free (by omega)⟩
theorem ok_C {c : List Nat} (h : isC c) : okW c := by
  rcases h with rfl | rfl
  · exact (by decide : (wv "each").length ≤ 10 ∧ (32 : Nat) ∉ wv "each")
  · exact (by decide : (wv "one").length ≤ 10 ∧ (32 : Nat) ∉ wv "one")
theorem ok_N {c : List Nat} (h : isN c) : okW c := by
  rcases h with rfl | rfl
  · exact (by decide : (wv "home").length ≤ 10 ∧ (32 : Nat) ∉ wv "home")
  · exact (by decide : (wv "far").length ≤ 10 ∧ (32 : Nat) ∉ wv "far")
theorem ok_a : ∀ s ∈ ["along", "window", "after", "every", "first", "at", "by", "when"], (wv s).length ≤ 10 ∧ (32 : Nat) ∉ wv s := by decide +kernel
theorem ok_ww {al : Bool} {w : Nat} (h : w < 100000) : ∀ x ∈ wwW al w, okW x := fun x hx => by
  cases al with
  | true => cases hx
  | false =>
    have hx : x ∈ [wv "window", numL w] := hx
    rcases List.mem_cons.mp hx with rfl | hx
    · exact ok_a "window" (by simp)
    · rw [List.mem_singleton.mp hx]
      exact ok_nL5 h
theorem ww_len (al : Bool) (w : Nat) : (wwW al w).length ≤ 2 := by cases al <;> simp [wwW]
theorem al_len (al : Bool) : (alW al).length ≤ 1 := by cases al <;> simp [alW]
theorem ok_kw {al : Bool} {w : Nat} {K : Ak} (hw : w < 100000) (g : K.good al w) : (∀ x ∈ K.ws (wwW al w), okW x) ∧ (K.ws (wwW al w)).length ≤ 130 ∧ K.ws (wwW al w) ≠ [] := by
  have w1 := ok_ww (al := al) hw
  have w2 := ww_len al w
  cases K with
  | after v =>
    refine ⟨fun x hx => ?_, by simp [Ak.ws]; omega, by simp [Ak.ws]⟩
    rcases List.mem_cons.mp hx with rfl | hx
    · exact ok_a "after" (by simp)
    rcases List.mem_cons.mp hx with rfl | hx
    · exact ok_nL5 g
    · exact w1 x hx
  | every s f c =>
    refine ⟨fun x hx => ?_, by simp [Ak.ws]; omega, by simp [Ak.ws]⟩
    rcases List.mem_cons.mp hx with rfl | hx
    · exact ok_a "every" (by simp)
    rcases List.mem_cons.mp hx with rfl | hx
    · exact ok_nL5 g.2.1
    rcases List.mem_cons.mp hx with rfl | hx
    · exact ok_a "first" (by simp)
    rcases List.mem_cons.mp hx with rfl | hx
    · exact ok_nL5 g.2.2.1
    rcases List.mem_append.mp hx with hx | hx
    · exact w1 x hx
    · rw [List.mem_singleton.mp hx]
      exact ok_C g.2.2.2.1
  | at_ nm d t =>
    refine ⟨fun x hx => ?_, by simp [Ak.ws]; omega, by simp [Ak.ws]⟩
    rcases List.mem_cons.mp hx with rfl | hx
    · exact ok_a "at" (by simp)
    rcases List.mem_cons.mp hx with rfl | hx
    · exact ok_N g.1
    rcases List.mem_cons.mp hx with rfl | hx
    · exact ok_dt _
    rcases List.mem_cons.mp hx with rfl | hx
    · exact ok_tm _
    · exact w1 x hx
  | by_ nm c r =>
    obtain ⟨r1, r2, r3⟩ := ok_ws g.2.2
    refine ⟨fun x hx => ?_, by simp [Ak.ws]; omega, by simp [Ak.ws]⟩
    rcases List.mem_cons.mp hx with rfl | hx
    · exact ok_a "by" (by simp)
    rcases List.mem_cons.mp hx with rfl | hx
    · exact ok_N g.1
    rcases List.mem_append.mp hx with hx | hx
    · exact w1 x hx
    rcases List.mem_cons.mp hx with rfl | hx
    · exact ok_C g.2.1
    rcases List.mem_cons.mp hx with rfl | hx
    · exact ok_a "when" (by simp)
    · exact r1 x hx
theorem ok_al {a : Al} (g : a.good) : (∀ x ∈ a.ws, okW x) ∧ a.ws.length ≤ 140 ∧ a.ws ≠ [] := by
  obtain ⟨k1, k2, k3⟩ := ok_kw g.1 g.2
  have l := al_len a.al
  refine ⟨fun x hx => ?_, by simp [Al.ws]; omega, by simp [Al.ws, k3]⟩
  rcases List.mem_append.mp hx with h | h
  · cases q : a.al with
    | true =>
      rw [q] at h
      rw [List.mem_singleton.mp h]
      exact ok_a "along" (by simp)
    | false =>
      rw [q] at h
      cases h
  · exact k1 x h
theorem read_alarm_text (n : Nat) (S : Store) {a : Al} (g : a.good) : ∃ S', Dx.run (G (n + 9)) d_read_alarm [.str (joinL [32] a.ws)] S = .ok a.v S' := by
  obtain ⟨h1, h2, h3⟩ := ok_al g
  exact ⟨_, read_alarm_ok n S g (by omega) h3 (fun w hw => (h1 w hw).2) (join_of h1 (by omega)).2⟩
/-! alarms written -/
section
variable {a b c d e : Va}
theorem x3_0 : atI [a, b, c] 0 = some a := rfl
theorem x3_1 : atI [a, b, c] 1 = some b := rfl
theorem x3_2 : atI [a, b, c] 2 = some c := rfl
theorem x4_0 : atI [a, b, c, d] 0 = some a := rfl
theorem x4_1 : atI [a, b, c, d] 1 = some b := rfl
theorem x4_2 : atI [a, b, c, d] 2 = some c := rfl
theorem x4_3 : atI [a, b, c, d] 3 = some d := rfl
theorem x5_0 : atI [a, b, c, d, e] 0 = some a := rfl
theorem x5_1 : atI [a, b, c, d, e] 1 = some b := rfl
theorem x5_2' : atI [a, b, c, d, e] 2 = some c := rfl
theorem x5_3 : atI [a, b, c, d, e] 3 = some d := rfl
theorem x5_4 : atI [a, b, c, d, e] 4 = some e := rfl
end
theorem win3 : ∀ s ∈ ["after", "every", "at", "by"], co .in_ (sV s) (.tup [sV "every", sV "at", sV "by"]) = some (.bl (!(s == "after"))) ∧ co .eq (sV s) (sV "after") = some (.bl (s == "after")) ∧ co .eq (sV s) (sV "every") = some (.bl (s == "every")) ∧ co .eq (sV s) (sV "at") = some (.bl (s == "at")) := by decide +kernel
theorem window_of_ok (n : Nat) (S : Store) (K : Ak) (ww : Va) : Dx.run (G n) d_window_of [K.v ww] S = .ok ww S := by
  rw [run_d rfl]
  cases K with
  | after v =>
    have e := (win3 "after" (by simp)).1
    simp [d_window_of, k_window_of, Ak.v, x3_0, x3_2, e, -q_in_tup]
  | every s f c =>
    have e := (win3 "every" (by simp)).1
    simp [d_window_of, k_window_of, Ak.v, x5_0, x5_3, e, -q_in_tup]
  | at_ nm d t =>
    have e := (win3 "at" (by simp)).1
    simp [d_window_of, k_window_of, Ak.v, x4_0, x4_3, e, -q_in_tup]
  | by_ nm c r =>
    have e := (win3 "by" (by simp)).1
    simp [d_window_of, k_window_of, Ak.v, x5_0, x5_3, e, -q_in_tup]
theorem alarm_text_ok (n : Nat) (S : Store) {a : Al} (g : a.good) : Dx.run (G (n + 5)) d_alarm_text [a.v] S = .ok (.str (joinL [32] a.ws)) S := by
  obtain ⟨al, w, K⟩ := a
  obtain ⟨gw, gk⟩ := g
  have gw : w < 100000 := gw
  have gk : K.good al w := gk
  obtain ⟨o1, o2, o3⟩ := ok_al (a := ⟨al, w, K⟩) ⟨gw, gk⟩
  have jn := (join_of o1 (by omega)).1
  have q := window_of_ok (n + 4) S K (wwV al w)
  show Dx.run (G (n + 5)) d_alarm_text [K.v (wwV al w)] S = _
  rw [run_d rfl]
  simp only [d_alarm_text, k_alarm_text]
  simp [k_alarm_text_t0, f_window_of, q]
  have e1 : ∀ s3 s4, evK (G (n + 5)) k_alarm_text_t1 [.val (K.v (wwV al w)), .val (wwV al w), .no, s3, s4] S = evK (G (n + 5)) k_alarm_text_t3 [.val (K.v (wwV al w)), .val (wwV al w), .val (Wl (alW al)), .val (Wl (wwW al w)), s4] S := fun s3 s4 => by
    cases al with
    | true => simp [k_alarm_text_t1, k_alarm_text_t2, wwV, wwW, alW, Wl]; rfl
    | false =>
      simp [k_alarm_text_t1, k_alarm_text_t2, wwV, wwW, alW, Wl, iV, p_strN gw]
      rfl
  rw [e1]
  have l1 := al_len al
  have l2 := ww_len al w
  cases K with
  | after v =>
    obtain ⟨_, e2, e3, e4⟩ := win3 "after" (by simp)
    have a1 : b2 .add (Wl (alW al)) (.lst [sV "after", .str (numL v)]) = some (Wl (alW al ++ [wv "after", numL v])) := addW (b := [wv "after", numL v]) (by simp; omega)
    have a2 : b2 .add (Wl (alW al ++ [wv "after", numL v])) (Wl (wwW al w)) = some (Wl (Al.ws ⟨al, w, .after v⟩)) := by
      rw [addW (by simp; omega)]
      simp [Al.ws, Ak.ws]
    obtain ⟨X1, hX1⟩ : ∃ X1, X1 = Wl (alW al ++ [wv "after", numL v]) := ⟨_, rfl⟩
    rw [← hX1] at a1 a2
    simp [k_alarm_text_t3, Ak.v, x3_0, x3_1, e2, -q_eqV, iV, p_strN (show v < 100000 from gk), a1, a2, sV_sp, jn]
  | every s f c =>
    obtain ⟨g1, g2, g3, g4, g5⟩ := gk
    obtain ⟨_, e2, e3, e4⟩ := win3 "every" (by simp)
    have a1 : b2 .add (Wl (alW al)) (.lst [sV "every", .str (numL s), sV "first", .str (numL f)]) = some (Wl (alW al ++ [wv "every", numL s, wv "first", numL f])) := addW (b := [wv "every", numL s, wv "first", numL f]) (by simp; omega)
    have a2 : b2 .add (Wl (alW al ++ [wv "every", numL s, wv "first", numL f])) (Wl (wwW al w)) = some (Wl (alW al ++ [wv "every", numL s, wv "first", numL f] ++ wwW al w)) := addW (by simp; omega)
    have a3 : b2 .add (Wl (alW al ++ [wv "every", numL s, wv "first", numL f] ++ wwW al w)) (.lst [.str c]) = some (Wl (Al.ws ⟨al, w, .every s f c⟩)) := by
      have := addW (a := alW al ++ [wv "every", numL s, wv "first", numL f] ++ wwW al w) (b := [c]) (by simp; omega)
      refine this.trans ?_
      simp [Al.ws, Ak.ws]
    obtain ⟨X1, hX1⟩ : ∃ X1, X1 = Wl (alW al ++ [wv "every", numL s, wv "first", numL f]) := ⟨_, rfl⟩
    obtain ⟨X2, hX2⟩ : ∃ X2, X2 = Wl (alW al ++ [wv "every", numL s, wv "first", numL f] ++ wwW al w) := ⟨_, rfl⟩
    rw [← hX1] at a1 a2
    rw [← hX2] at a2 a3
    simp [k_alarm_text_t3, Ak.v, x5_0, x5_1, x5_2', x5_4, e2, e3, -q_eqV, k_alarm_text_t4, iV, p_strN g2, p_strN g3, a1, a2, a3, sV_sp, jn]
  | at_ nm d t =>
    obtain ⟨g1, g2, g3⟩ := gk
    obtain ⟨_, e2, e3, e4⟩ := win3 "at" (by simp)
    have dv : (1440 * d.n + (t : Int)) / 1440 = d.n := by omega
    have dm : (1440 * d.n + (t : Int)) % 1440 = (t : Int) := by omega
    have dt := date_text_ok (n + 1) S g2
    have tt := time_text_ok (n + 3) S g3
    have a1 : b2 .add (Wl (alW al)) (.lst [sV "at", .str nm]) = some (Wl (alW al ++ [wv "at", nm])) := addW (b := [wv "at", nm]) (by simp; omega)
    have a2 : b2 .add (Wl (alW al ++ [wv "at", nm])) (.lst [.str d.t, .str (tmT t)]) = some (Wl (alW al ++ [wv "at", nm] ++ [d.t, tmT t])) := addW (b := [d.t, tmT t]) (by simp; omega)
    have a3 : b2 .add (Wl (alW al ++ [wv "at", nm] ++ [d.t, tmT t])) (Wl (wwW al w)) = some (Wl (Al.ws ⟨al, w, .at_ nm d t⟩)) := by
      rw [addW (by simp; omega)]
      simp [Al.ws, Ak.ws]
    obtain ⟨X1, hX1⟩ : ∃ X1, X1 = Wl (alW al ++ [wv "at", nm]) := ⟨_, rfl⟩
    obtain ⟨X2, hX2⟩ : ∃ X2, X2 = Wl (alW al ++ [wv "at", nm] ++ [d.t, tmT t]) := ⟨_, rfl⟩
    rw [← hX1] at a1 a2
    rw [← hX2] at a2 a3
    simp [k_alarm_text_t3, Ak.v, x4_0, x4_1, x4_2, e2, e3, e4, -q_eqV, k_alarm_text_t4, k_alarm_text_t5, g_DAY, q_div, q_mod, dv, dm, f_date_text, dt, f_time_text, tt, a1, a2, a3, sV_sp, jn]
  | by_ nm c r =>
    obtain ⟨g1, g2, g3⟩ := gk
    obtain ⟨_, e2, e3, e4⟩ := win3 "by" (by simp)
    obtain ⟨r1, r2, r3⟩ := ok_ws g3
    have wr := written_ok n S g3
    have a1 : b2 .add (Wl (alW al)) (.lst [sV "by", .str nm]) = some (Wl (alW al ++ [wv "by", nm])) := addW (b := [wv "by", nm]) (by simp; omega)
    have a2 : b2 .add (Wl (alW al ++ [wv "by", nm])) (Wl (wwW al w)) = some (Wl (alW al ++ [wv "by", nm] ++ wwW al w)) := addW (by simp; omega)
    obtain ⟨P1, hP1⟩ : ∃ P1, P1 = alW al ++ [wv "by", nm] ++ wwW al w ++ [c, wv "when"] := ⟨_, rfl⟩
    have lP : P1.length ≤ 20 := by
      rw [hP1]
      simp
      omega
    have oP : ∀ x ∈ P1, okW x := fun x hx => o1 x (by
      rw [hP1] at hx
      simp only [Al.ws, Ak.ws, List.mem_append, List.mem_cons, List.not_mem_nil, or_false] at hx ⊢
      grind)
    have a3 : b2 .add (Wl (alW al ++ [wv "by", nm] ++ wwW al w)) (.lst [.str c, sV "when", .str (joinL [32] r.ws)]) = some (.lst (P1.map .str ++ [.str (joinL [32] r.ws)])) := by
      have := addW (a := alW al ++ [wv "by", nm] ++ wwW al w) (b := [c, wv "when", joinL [32] r.ws]) (by simp; omega)
      refine this.trans ?_
      rw [hP1]
      simp [Wl]
    have jl := join_long oP lP r1 (by omega) r3
    have ej : P1 ++ r.ws = Al.ws ⟨al, w, .by_ nm c r⟩ := by
      rw [hP1]
      simp [Al.ws, Ak.ws]
    rw [ej] at jl
    obtain ⟨X1, hX1⟩ : ∃ X1, X1 = Wl (alW al ++ [wv "by", nm]) := ⟨_, rfl⟩
    obtain ⟨X2, hX2⟩ : ∃ X2, X2 = Wl (alW al ++ [wv "by", nm] ++ wwW al w) := ⟨_, rfl⟩
    obtain ⟨X3, hX3⟩ : ∃ X3, X3 = (.lst (P1.map .str ++ [.str (joinL [32] r.ws)]) : Va) := ⟨_, rfl⟩
    rw [← hX1] at a1 a2
    rw [← hX2] at a2 a3
    rw [← hX3] at a3 jl
    simp [k_alarm_text_t3, Ak.v, x5_0, x5_1, x5_2', x5_4, e2, e3, e4, -q_eqV, k_alarm_text_t4, k_alarm_text_t5, k_alarm_text_t6, f_written, wr, a1, a2, a3, sV_sp, jl]
end Wk50
end
section
namespace Wk50
open PySem PySem.Spec PyProof.Rows L2 Mi
open TL
/-! the law's own look at an alarm's words -/
theorem f__law_parts (n : Nat) : (G (n + 1)).fn "_law_parts" = some (Dx.run (G n) d__law_parts) := rfl
theorem sl_from {l : List Va} {k : Nat} : vSl (some (k : Int)) none (.lst l) = some (.lst (l.drop k)) := by
  show some (Va.lst (cutL l (some (k : Int)) none)) = _
  unfold cutL
  have e1 : HT.sIx l.length 0 (some (k : Int)) = min k l.length := by
    show (if (k : Int) < 0 then ((k : Int) + (l.length : Int)).toNat else min (k : Int).toNat l.length) = _
    rw [if_neg (by omega)]
    simp
  have e2 : HT.sIx l.length l.length none = l.length := rfl
  rw [e1, e2]
  by_cases c : k ≤ l.length
  · rw [Nat.min_eq_left c, List.take_of_length_le (by rw [List.length_drop]; omega)]
  · rw [Nat.min_eq_right (by omega), List.drop_length, List.drop_of_length_le (by omega)]
    simp
theorem idx_at {y : List Nat} {B : List (List Nat)} : ∀ {A : List (List Nat)}, y ∉ A → idxV (.str y) ((A ++ y :: B).map .str) = some A.length
  | [], _ => if_pos rfl
  | a :: A, h => by
    have h1 : a ≠ y := fun e => h (by rw [e]; exact List.mem_cons_self)
    have ih := idx_at (B := B) (A := A) fun m => h (List.mem_cons_of_mem _ m)
    show (if Va.str a = Va.str y then some 0 else (idxV (.str y) ((A ++ y :: B).map .str)).map (· + 1)) = _
    rw [if_neg (fun e => h1 (by injection e)), ih]
    rfl
theorem lix_at {y : List Nat} {A B : List (List Nat)} (h : y ∉ A) : lixV (Wl (A ++ y :: B)) (.str y) = some (.int (A.length : Int)) := by
  show (if (flatW (.str y) && ((A ++ y :: B).map Va.str).all flatW) = true then _ else none) = _
  have : ((A ++ y :: B).map Va.str).all flatW = true := by simp
  rw [if_pos (by rw [this]; rfl), idx_at h]
  rfl
theorem ix_W {L : List (List Nat)} {k : Nat} {x : List Nat} (h : L[k]? = some x) : atI (L.map Va.str) (k : Int) = some (.str x) := by
  have hk := (List.getElem?_eq_some_iff.mp h).1
  rw [at_pos (by omega) (by rw [List.length_map]; omega), List.getElem?_map]
  simp [h]
theorem not_mem_len {y : List Nat} {A : List (List Nat)} (h : ∀ a ∈ A, a.length ≠ y.length) : y ∉ A := fun m => h y m rfl
theorem len_nL {v : Nat} (h : v < 100000) : (numL v).length ≠ 6 := by
  have := numL_len (n := v) (k := 5) (by decide) (by show v < 100000; exact h)
  omega
theorem len_N {c : List Nat} (h : isN c) : c.length ≠ 6 := by rcases h with rfl | rfl <;> decide
theorem o_1 : pr .int [.bl true] = some (.int 1) := rfl
theorem o_0 : pr .int [.bl false] = some (.int 0) := rfl
/-- what stands ahead of a window's word -/
def Ak.pre : Ak → List (List Nat)
  | .after v => [wv "after", numL v]
  | .every s f _ => [wv "every", numL s, wv "first", numL f]
  | .at_ nm d t => [wv "at", nm, d.t, tmT t]
  | .by_ nm _ _ => [wv "by", nm]
def Ak.post : Ak → List (List Nat)
  | .after _ => []
  | .every _ _ c => [c]
  | .at_ _ _ _ => []
  | .by_ _ c r => c :: wv "when" :: r.ws
theorem ws_pp (K : Ak) (ww : List (List Nat)) : K.ws ww = K.pre ++ (ww ++ K.post) := by
  cases K <;> simp [Ak.ws, Ak.pre, Ak.post]
theorem pre_win {al : Bool} {w : Nat} {K : Ak} (g : K.good al w) : wv "window" ∉ K.pre := by
  refine not_mem_len fun a ha => ?_
  have e : (wv "window").length = 6 := rfl
  rw [e]
  cases K with
  | after v =>
    simp only [Ak.pre, List.mem_cons, List.not_mem_nil, or_false] at ha
    rcases ha with rfl | rfl
    · decide
    · exact len_nL g
  | every s f c =>
    simp only [Ak.pre, List.mem_cons, List.not_mem_nil, or_false] at ha
    rcases ha with rfl | rfl | rfl | rfl
    · decide
    · exact len_nL g.2.1
    · decide
    · exact len_nL g.2.2.1
  | at_ nm d t =>
    simp only [Ak.pre, List.mem_cons, List.not_mem_nil, or_false] at ha
    rcases ha with rfl | rfl | rfl | rfl
    · decide
    · exact len_N g.1
    · rw [dt_len]; decide
    · show (5 : Nat) ≠ 6
      decide
  | by_ nm c r =>
    simp only [Ak.pre, List.mem_cons, List.not_mem_nil, or_false] at ha
    rcases ha with rfl | rfl
    · decide
    · exact len_N g.1
theorem hd_pre (K : Ak) : ∃ s ∈ ["after", "every", "at", "by"], ∃ r, K.pre = wv s :: r := by
  cases K
  · exact ⟨"after", by simp, _, rfl⟩
  · exact ⟨"every", by simp, _, rfl⟩
  · exact ⟨"at", by simp, _, rfl⟩
  · exact ⟨"by", by simp, _, rfl⟩
def PtOk (v : Va) (q : Res Va) : Prop := ∃ S', q = .ok v S'
theorem law_parts_ok (n : Nat) (S : Store) {a : Al} (g : a.good) : PtOk a.v (Dx.run (G (n + 9)) d__law_parts [.str (joinL [32] a.ws)] S) := by
  obtain ⟨o1, o2, o3⟩ := ok_al g
  have jz := (join_of o1 (by omega)).2
  have sp : tmV .split (joinL [32] a.ws) (.str [32]) = some (Wl a.ws) := by
    show splitT _ _ = _
    unfold splitT
    rw [if_pos ⟨by simp, by decide, Nat.le_trans (Nat.add_le_add_right jz 2) (by decide)⟩, spl_join o3 fun w hw => (o1 w hw).2]
    rfl
  obtain ⟨al, w, K⟩ := a
  obtain ⟨gw, gk⟩ := g
  have gw : w < 100000 := gw
  have gk : K.good al w := gk
  obtain ⟨s, hs, r0, hr0⟩ := hd_pre K
  rw [run_d rfl]
  simp only [d__law_parts, k__law_parts]
  simp [k__law_parts_t0, sV_sp, sp]
  obtain ⟨L, hL⟩ : ∃ L, L = K.ws (wwW al w) := ⟨_, rfl⟩
  have hLh : L = wv s :: (r0 ++ (wwW al w ++ K.post)) := by
    rw [hL, ws_pp, hr0]
    rfl
  have e1 : ∀ s3 s4 s5, evK (G (n + 9)) k__law_parts_t1 [.val (.str (joinL [32] (Al.ws ⟨al, w, K⟩))), .val (Wl (Al.ws ⟨al, w, K⟩)), .no, s3, s4, s5] S = evK (G (n + 9)) k__law_parts_t3 [.val (.str (joinL [32] (Al.ws ⟨al, w, K⟩))), .val (Wl L), .val (.bl al), s3, s4, s5] S := fun s3 s4 s5 => by
    cases al with
    | true =>
      have hw : Al.ws ⟨true, w, K⟩ = wv "along" :: L := by rw [hL]; rfl
      rw [hw]
      have e := eq_ye (s := "along") (by decide)
      have sl := sl_from (l := (wv "along" :: L).map Va.str) (k := 1)
      have sl : vSl (some 1) none (.lst ((wv "along" :: L).map Va.str)) = some (.lst (L.map Va.str)) := sl
      unfold Wl
      rw [List.map_cons] at sl ⊢
      simp [k__law_parts_t1, k__law_parts_t2, e, -q_eqV, o_1, isAbs, sl]
    | false =>
      have hw : Al.ws ⟨false, w, K⟩ = L := by rw [hL]; rfl
      rw [hw]
      have e := al4 s hs
      have sl := sl_from (l := L.map Va.str) (k := 0)
      have sl : vSl (some 0) none (.lst (L.map Va.str)) = some (.lst (L.map Va.str)) := sl
      have x0 : atI (L.map Va.str) 0 = some (.str (wv s)) := by rw [hLh, List.map_cons, at_0]
      unfold Wl
      simp [k__law_parts_t1, k__law_parts_t2, x0, e, -q_eqV, o_0, isAbs, sl]
  rw [e1]
  have e3 : ∀ s0 s4 s5, evK (G (n + 9)) k__law_parts_t3 [s0, .val (Wl L), .val (.bl al), .no, s4, s5] S = evK (G (n + 9)) k__law_parts_t4 [s0, .val (Wl L), .val (.bl al), .val (wwV al w), s4, s5] S := fun s0 s4 s5 => by
    cases al with
    | true => simp [k__law_parts_t3, wwV]
    | false =>
      have hw : L = K.pre ++ (wv "window" :: (numL w :: K.post)) := by rw [hL, ws_pp]; rfl
      have lx : lixV (Wl L) (.str (wv "window")) = some (.int (K.pre.length : Int)) := by
        rw [hw]
        exact lix_at (pre_win gk)
      have ix : atI (L.map Va.str) (((K.pre.length + 1 : Nat)) : Int) = some (.str (numL w)) := ix_W (by
        rw [hw, List.getElem?_append_right (by omega)]
        simp)
      have ix : atI (L.map Va.str) ((K.pre.length : Int) + 1) = some (.str (numL w)) := ix
      have sw : sV "window" = .str (wv "window") := rfl
      have lx : lixV (.lst (L.map Va.str)) (.str (wv "window")) = some (.int (K.pre.length : Int)) := lx
      unfold Wl
      simp [k__law_parts_t3, sw, lx, ix, intN gw, wwV, iV]
  rw [e3]
  have kd := kd4 s hs
  have x0 : atI (L.map Va.str) 0 = some (.str (wv s)) := by rw [hLh, List.map_cons, at_0]
  cases K with
  | after v =>
    have hs' : L = wv "after" :: numL v :: wwW al w := hL
    have x0 : atI (L.map Va.str) 0 = some (.str (wv "after")) := by rw [hs', List.map_cons, at_0]
    have x1 : atI (L.map Va.str) 1 = some (.str (numL v)) := ix_W (k := 1) (by rw [hs']; rfl)
    obtain ⟨_, k1, k2, k3⟩ := kd4 "after" (by simp)
    unfold Wl
    simp [k__law_parts_t4, x0, k1, -q_eqV, x1, intN (show v < 100000 from gk)]
    exact ⟨_, rfl⟩
  | every s' f c =>
    obtain ⟨g1, g2, g3, g4, g5⟩ := gk
    have hs' : L = wv "every" :: numL s' :: wv "first" :: numL f :: (wwW al w ++ [c]) := hL
    have x0 : atI (L.map Va.str) 0 = some (.str (wv "every")) := by rw [hs', List.map_cons, at_0]
    have x1 : atI (L.map Va.str) 1 = some (.str (numL s')) := ix_W (k := 1) (by rw [hs']; rfl)
    have x3 : atI (L.map Va.str) 3 = some (.str (numL f)) := ix_W (k := 3) (by rw [hs']; rfl)
    have xl : atI (L.map Va.str) (-1) = some (.str c) := by
      obtain ⟨P, e⟩ : ∃ P, L = P ++ [c] := ⟨wv "every" :: numL s' :: wv "first" :: numL f :: wwW al w, hs'⟩
      have hz : 0 < L.length := by rw [e]; simp
      rw [at_neg (by omega) (by rw [List.length_map]; omega), List.length_map, List.getElem?_map]
      have e2 : ((-1 : Int) + (L.length : Int)).toNat = L.length - 1 := by omega
      rw [e2, ← List.getLast?_eq_getElem?, e]
      simp
    obtain ⟨_, k1, k2, k3⟩ := kd4 "every" (by simp)
    unfold Wl
    simp [k__law_parts_t4, x0, k1, k2, -q_eqV, k__law_parts_t5, x1, x3, xl, intN g2, intN g3]
    exact ⟨_, rfl⟩
  | at_ nm d t =>
    obtain ⟨g1, g2, g3⟩ := gk
    have hs' : L = wv "at" :: nm :: d.t :: tmT t :: wwW al w := hL
    obtain ⟨a, b, ea⟩ := d2_2 d.m
    obtain ⟨c, e, ec⟩ := d2_2 d.d
    obtain ⟨y1, y2, y3, y4, ey⟩ := d4_4 (2000 + d.y)
    obtain ⟨h1, h2, eh⟩ := d2_2 (t / 60)
    obtain ⟨m1, m2, em⟩ := d2_2 (t % 60)
    have et : d.t = [y1, y2, y3, y4, 45, a, b, 45, c, e] := by
      unfold Dy.t dtT
      rw [ea, ec, ey]
      rfl
    have eT : tmT t = [h1, h2, 58, m1, m2] := by
      unfold tmT
      rw [eh, em]
      rfl
    have hm : d.m < 100 := by
      have := g2.2.m2
      omega
    have hd : d.d < 100 := by
      have := g2.2.d2
      have := mlen_hi ((2000 + d.y : Nat) : Int) (d.m : Int)
      omega
    have j1 := i4 d.y g2.1
    have j2 := i2 d.m hm
    have j3 := i2 d.d hd
    have j4 := i2 (t / 60) (by omega)
    have j5 := i2 (t % 60) (by omega)
    rw [ey] at j1
    rw [ea] at j2
    rw [ec] at j3
    rw [eh] at j4
    rw [em] at j5
    have x0 : atI (L.map Va.str) 0 = some (.str (wv "at")) := by rw [hs', List.map_cons, at_0]
    have x1 : atI (L.map Va.str) 1 = some (.str nm) := ix_W (k := 1) (by rw [hs']; rfl)
    have x2 : atI (L.map Va.str) 2 = some (.str [y1, y2, y3, y4, 45, a, b, 45, c, e]) := ix_W (k := 2) (by rw [hs', et]; rfl)
    have x3 : atI (L.map Va.str) 3 = some (.str [h1, h2, 58, m1, m2]) := ix_W (k := 3) (by rw [hs', eT]; rfl)
    obtain ⟨_, k1, k2, k3⟩ := kd4 "at" (by simp)
    have ld := law_day_ok (n + 7) (y := ((2000 + d.y : Nat) : Int)) (m := (d.m : Int)) (d := (d.d : Int)) S g2.2.m1 g2.2.m2
    obtain ⟨Y, hY⟩ : ∃ Y : Int, Y = ((2000 + d.y : Nat) : Int) := ⟨_, rfl⟩
    obtain ⟨N, hN⟩ : ∃ N : Int, N = d.n := ⟨_, rfl⟩
    have eN : dayN Y (d.m : Int) (d.d : Int) = N := by rw [hY, hN]; rfl
    rw [← hY] at j1 ld
    rw [eN] at ld
    have fin : 1440 * N + 60 * ((t / 60 : Nat) : Int) + ((t % 60 : Nat) : Int) = 1440 * d.n + (t : Int) := by rw [hN]; omega
    obtain ⟨P, hP⟩ : ∃ P : Int, P = ((t / 60 : Nat) : Int) := ⟨_, rfl⟩
    obtain ⟨Q, hQ⟩ : ∃ Q : Int, Q = ((t % 60 : Nat) : Int) := ⟨_, rfl⟩
    rw [← hP] at j4 fin
    rw [← hQ] at j5 fin
    unfold Wl
    simp [k__law_parts_t4, x0, k1, k2, k3, -q_eqV, k__law_parts_t5, k__law_parts_t6, x1, x2, x3, isAbs, y10_4, y10_5, y10_8, y5_2, y5_3, j1, j2, j3, j4, j5, f__law_day, ld, q_mul, fin]
    exact ⟨_, rfl⟩
  | by_ nm c r =>
    obtain ⟨g1, g2, g3⟩ := gk
    obtain ⟨r1, r2, r3⟩ := ok_ws g3
    have hs' : L = (wv "by" :: nm :: (wwW al w ++ [c])) ++ wv "when" :: r.ws := by
      rw [hL]
      simp [Ak.ws]
    obtain ⟨A, hA⟩ : ∃ A, A = wv "by" :: nm :: (wwW al w ++ [c]) := ⟨_, rfl⟩
    rw [← hA] at hs'
    have hm : wv "when" ∉ A := fun m => by
      rw [hA] at m
      rcases List.mem_cons.mp m with h | m
      · exact absurd h (by decide)
      rcases List.mem_cons.mp m with h | m
      · rcases g1 with rfl | rfl
        · exact absurd h (by decide)
        · exact absurd h (by decide)
      rcases List.mem_append.mp m with m | m
      · cases al with
        | true => cases m
        | false =>
          have m : wv "when" ∈ [wv "window", numL w] := m
          rcases List.mem_cons.mp m with h | m
          · exact absurd h (by decide)
          · have h := List.mem_singleton.mp m
            have : (119 : Nat) ∈ numL w := by
              rw [← h]
              decide
            exact numL_free (by omega) this
      · have h := List.mem_singleton.mp m
        rcases g2 with rfl | rfl
        · exact absurd h (by decide)
        · exact absurd h (by decide)
    have lx : lixV (.lst (L.map Va.str)) (.str (wv "when")) = some (.int (A.length : Int)) := by
      rw [hs']
      exact lix_at hm
    have x0 : atI (L.map Va.str) 0 = some (.str (wv "by")) := ix_W (k := 0) (by rw [hs', hA]; rfl)
    have x1 : atI (L.map Va.str) 1 = some (.str nm) := ix_W (k := 1) (by rw [hs', hA]; rfl)
    have hz : A.length = A.length - 1 + 1 := by rw [hA]; simp
    have xc : atI (L.map Va.str) ((A.length : Int) - 1) = some (.str c) := by
      have e : (A.length : Int) - 1 = ((A.length - 1 : Nat) : Int) := by omega
      rw [e]
      refine ix_W ?_
      obtain ⟨P, e⟩ : ∃ P, A = P ++ [c] := ⟨wv "by" :: nm :: wwW al w, hA⟩
      rw [hs', List.getElem?_append_left (by omega), ← List.getLast?_eq_getElem?, e]
      simp
    have sl : vSl (some ((A.length : Int) + 1)) none (.lst (L.map Va.str)) = some (Wl r.ws) := by
      have := sl_from (l := L.map Va.str) (k := A.length + 1)
      refine this.trans ?_
      rw [← List.map_drop, hs', ← List.drop_drop]
      simp [Wl]
    obtain ⟨jw, _⟩ := join_ws g3
    obtain ⟨S', rd⟩ := read_text n S g3
    obtain ⟨_, k1, k2, k3⟩ := kd4 "by" (by simp)
    have sw : sV "when" = .str (wv "when") := rfl
    obtain ⟨X, hX⟩ : ∃ X, X = Wl r.ws := ⟨_, rfl⟩
    rw [← hX] at sl jw
    unfold Wl
    simp [k__law_parts_t4, x0, k1, k2, k3, -q_eqV, k__law_parts_t5, k__law_parts_t6, k__law_parts_t7, sw, lx, k__law_parts_t8, x1, isAbs, sl, sV_sp, jw, f_read, rd, xc]
    exact ⟨_, rfl⟩
end Wk50
end
section
namespace Wk50
open PySem PySem.Spec PyProof.Rows L2 Mi
open TL
/-! the law's own alarms -/
theorem f__law_rule_text (n : Nat) : (G (n + 1)).fn "_law_rule_text" = some (Dx.run (G n) d__law_rule_text) := rfl
theorem f__law_alarm_text (n : Nat) : (G (n + 1)).fn "_law_alarm_text" = some (Dx.run (G n) d__law_alarm_text) := rfl
def dyB (x : Dy) : Bool := decide (x.y < 100) && (decide (1 ≤ x.m) && (decide (x.m ≤ 12) && (decide (1 ≤ x.d) && decide ((x.d : Int) ≤ mlen ((2000 + x.y : Nat) : Int) (x.m : Int)))))
theorem dy_ok {x : Dy} (h : dyB x = true) : x.ok := by
  unfold dyB at h
  simp only [Bool.and_eq_true, decide_eq_true_eq] at h
  obtain ⟨h1, h2, h3, h4, h5⟩ := h
  exact ⟨h1, ⟨by omega, by omega, by omega, by omega, by omega, h5⟩⟩
def ruG (r : Ru) : Prop := r.good ∧ (joinL [32] r.ws).length ≤ 1000
def R0 : Ru := ⟨.days, 1, [150], ⟨24, 1, 1⟩, none, []⟩
def R1 : Ru := ⟨.weeks [6], 1, [90, 120, 180], ⟨24, 1, 1⟩, none, []⟩
def R2 : Ru := ⟨.days, 2, [1439], ⟨24, 3, 1⟩, some ⟨24, 12, 31⟩, [⟨24, 3, 31⟩, ⟨24, 10, 27⟩]⟩
def R3 : Ru := ⟨.last, 1, [0], ⟨24, 1, 31⟩, none, []⟩
def R4 : Ru := ⟨.weeks [0, 4], 3, [720], ⟨24, 2, 1⟩, none, []⟩
def R5 : Ru := ⟨.years [(3, 31), (10, 27)], 1, [135, 165], ⟨20, 1, 1⟩, none, []⟩
def R6 : Ru := ⟨.nth 1 6, 1, [120], ⟨24, 3, 1⟩, none, []⟩
def R7 : Ru := ⟨.days, 1, [0, 360, 720, 1080], ⟨24, 3, 30⟩, some ⟨24, 4, 3⟩, []⟩
theorem t0 : joinL [32] R0.ws = wv "daily at 02:30 from 2024-01-01" := by decide +kernel
theorem t1 : joinL [32] R1.ws = wv "weekly on su at 01:30 02:00 03:00 from 2024-01-01" := by decide +kernel
theorem t2 : joinL [32] R2.ws = wv "every 2 days at 23:59 from 2024-03-01 until 2024-12-31 but 2024-03-31 2024-10-27" := by decide +kernel
theorem t3 : joinL [32] R3.ws = wv "monthly on last at 00:00 from 2024-01-31" := by decide +kernel
theorem t4 : joinL [32] R4.ws = wv "every 3 weeks on mo fr at 12:00 from 2024-02-01" := by decide +kernel
theorem t5 : joinL [32] R5.ws = wv "yearly on 03-31 10-27 at 02:15 02:45 from 2020-01-01" := by decide +kernel
theorem t6 : joinL [32] R6.ws = wv "monthly on 2nd su at 02:00 from 2024-03-01" := by decide +kernel
theorem t7 : joinL [32] R7.ws = wv "daily at 00:00 06:00 12:00 18:00 from 2024-03-30 until 2024-04-03" := by decide +kernel
theorem nola {x : Dy} {P : Prop} (h : (none : Option Dy) = some x) : P := nomatch h
theorem G0 : R0.good := ⟨trivial, by decide, by decide, by decide, by decide, by decide, by decide, dy_ok (by decide +kernel), fun x h => nola h, List.Pairwise.nil, fun x h => (nomatch h), by decide⟩
theorem G1 : R1.good := ⟨⟨by decide, by decide, by decide, by decide⟩, by decide, by decide, by decide, by decide, by decide, by decide, dy_ok (by decide +kernel), fun x h => nola h, List.Pairwise.nil, fun x h => (nomatch h), by decide⟩
theorem G2 : R2.good := ⟨trivial, by decide, by decide, by decide, by decide, by decide, by decide, dy_ok (by decide +kernel), fun x h => by
    cases h
    exact ⟨dy_ok (by decide +kernel), by decide +kernel⟩, by
    refine List.Pairwise.cons (fun y hy => ?_) (List.Pairwise.cons (fun y hy => nomatch hy) List.Pairwise.nil)
    rw [List.mem_singleton.mp hy]
    decide +kernel, fun x h => by
    rcases List.mem_cons.mp h with rfl | h
    · exact dy_ok (by decide +kernel)
    · rw [List.mem_singleton.mp h]
      exact dy_ok (by decide +kernel), by decide⟩
theorem G3 : R3.good := ⟨trivial, by decide, by decide, by decide, by decide, by decide, by decide, dy_ok (by decide +kernel), fun x h => nola h, List.Pairwise.nil, fun x h => (nomatch h), by decide⟩
theorem G4 : R4.good := ⟨⟨by decide, by decide, by decide, by decide⟩, by decide, by decide, by decide, by decide, by decide, by decide, dy_ok (by decide +kernel), fun x h => nola h, List.Pairwise.nil, fun x h => (nomatch h), by decide⟩
theorem G5 : R5.good := ⟨⟨by decide, by
    refine List.Pairwise.cons (fun y hy => ?_) (List.Pairwise.cons (fun y hy => nomatch hy) List.Pairwise.nil)
    rw [List.mem_singleton.mp hy]
    exact .inl (by decide), fun p h => by
    rcases List.mem_cons.mp h with rfl | h
    · exact (dy_ok (x := ⟨0, 3, 31⟩) (by decide +kernel)).2
    · rw [List.mem_singleton.mp h]
      exact (dy_ok (x := ⟨0, 10, 27⟩) (by decide +kernel)).2, by decide⟩, by decide, by decide, by decide, by decide, by decide, by decide, dy_ok (by decide +kernel), fun x h => nola h, List.Pairwise.nil, fun x h => (nomatch h), by decide⟩
theorem G6 : R6.good := ⟨⟨by decide, by decide⟩, by decide, by decide, by decide, by decide, by decide, by decide, dy_ok (by decide +kernel), fun x h => nola h, List.Pairwise.nil, fun x h => (nomatch h), by decide⟩
theorem G7 : R7.good := ⟨trivial, by decide, by decide, by decide, by decide, by decide, by decide, dy_ok (by decide +kernel), fun x h => by
    cases h
    exact ⟨dy_ok (by decide +kernel), by decide +kernel⟩, List.Pairwise.nil, fun x h => (nomatch h), by decide⟩
theorem law_rule_text_ok (n : Nat) {N : Int} (S : Store) : ∃ r : Ru, r.good ∧ (joinL [32] r.ws).length ≤ 1000 ∧ Dx.run (G n) d__law_rule_text [.int N] S = .ok (.str (joinL [32] r.ws)) S := by
  obtain ⟨i, hi⟩ : ∃ i, i = N % 8 := ⟨_, rfl⟩
  have h : ∃ r : Ru, r.good ∧ (joinL [32] r.ws).length ≤ 1000 ∧ atI ([sV "daily at 02:30 from 2024-01-01", sV "weekly on su at 01:30 02:00 03:00 from 2024-01-01", sV "every 2 days at 23:59 from 2024-03-01 until 2024-12-31 but 2024-03-31 2024-10-27", sV "monthly on last at 00:00 from 2024-01-31", sV "every 3 weeks on mo fr at 12:00 from 2024-02-01", sV "yearly on 03-31 10-27 at 02:15 02:45 from 2020-01-01", sV "monthly on 2nd su at 02:00 from 2024-03-01", sV "daily at 00:00 06:00 12:00 18:00 from 2024-03-30 until 2024-04-03"] : List Va) i = some (.str (joinL [32] r.ws)) := by
    have : i = 0 ∨ i = 1 ∨ i = 2 ∨ i = 3 ∨ i = 4 ∨ i = 5 ∨ i = 6 ∨ i = 7 := by omega
    rcases this with h | h | h | h | h | h | h | h <;> rw [h]
    · exact ⟨R0, G0, by rw [t0]; decide, by rw [t0]; rfl⟩
    · exact ⟨R1, G1, by rw [t1]; decide, by rw [t1]; rfl⟩
    · exact ⟨R2, G2, by rw [t2]; decide, by rw [t2]; rfl⟩
    · exact ⟨R3, G3, by rw [t3]; decide, by rw [t3]; rfl⟩
    · exact ⟨R4, G4, by rw [t4]; decide, by rw [t4]; rfl⟩
    · exact ⟨R5, G5, by rw [t5]; decide, by rw [t5]; rfl⟩
    · exact ⟨R6, G6, by rw [t6]; decide, by rw [t6]; rfl⟩
    · exact ⟨R7, G7, by rw [t7]; decide, by rw [t7]; rfl⟩
  obtain ⟨r, g, l, h⟩ := h
  refine ⟨r, g, l, ?_⟩
  rw [run_d rfl]
  simp [d__law_rule_text, k__law_rule_text, q_addL, q_mod, ← hi, h]
theorem joinL_app {M : List (List Nat)} (hM : M ≠ []) : ∀ {L : List (List Nat)}, L ≠ [] → joinL [32] (L ++ M) = joinL [32] L ++ 32 :: joinL [32] M
  | [], h => absurd rfl h
  | [p], _ => joinL_cons hM
  | p :: q :: r, _ => by
    have ih := joinL_app hM (L := q :: r) (by simp)
    rw [show (p :: q :: r) ++ M = p :: ((q :: r) ++ M) from rfl, joinL_cons (L := (q :: r) ++ M) (by simp), ih, joinL_cons (L := q :: r) (by simp), List.append_assoc, List.cons_append]
def hdT (al : Bool) : List Nat := if al = true then wv "along " else []
def tlT (al : Bool) (w : Nat) : List Nat := if al = true then [] else wv " window " ++ numL w
theorem J1 {al : Bool} {L : List (List Nat)} (h : L ≠ []) : joinL [32] (alW al ++ L) = hdT al ++ joinL [32] L := by
  cases al with
  | true =>
    show joinL [32] (wv "along" :: L) = wv "along " ++ _
    rw [joinL_cons h]
    rfl
  | false => rfl
theorem J2 {al : Bool} {w : Nat} {L : List (List Nat)} (h : L ≠ []) : joinL [32] (L ++ wwW al w) = joinL [32] L ++ tlT al w := by
  cases al with
  | true =>
    show joinL [32] (L ++ []) = _ ++ []
    simp
  | false =>
    show joinL [32] (L ++ [wv "window", numL w]) = _ ++ (wv " window " ++ numL w)
    rw [joinL_app (by simp) h]
    rfl
theorem J3 {al : Bool} {w : Nat} {L M : List (List Nat)} (hL : L ≠ []) (hM : M ≠ []) : joinL [32] (L ++ (wwW al w ++ M)) = joinL [32] L ++ tlT al w ++ 32 :: joinL [32] M := by
  rw [← List.append_assoc, joinL_app hM (by simp [hL]), J2 hL]
theorem hd_len (al : Bool) : (hdT al).length ≤ 6 := by cases al <;> decide
theorem tl_len {al : Bool} {w : Nat} (h : w < 100000) : (tlT al w).length ≤ 13 := by
  have := numL_len (n := w) (k := 5) (by decide) (by show w < 100000; exact h)
  cases al with
  | true => simp [tlT]
  | false =>
    have e : (wv " window ").length = 8 := rfl
    simp [tlT, e]
    omega
theorem pickWn {i : Int} (h0 : 0 ≤ i) (h : i < 5) : ∃ w : Nat, w ≤ 90 ∧ atI ([sV "0", sV "5", sV "30", sV "90", sV "19"] : List Va) i = some (.str (numL w)) := by
  have : i = 0 ∨ i = 1 ∨ i = 2 ∨ i = 3 ∨ i = 4 := by omega
  rcases this with rfl | rfl | rfl | rfl | rfl
  · exact ⟨0, by decide, by decide +kernel⟩
  · exact ⟨5, by decide, by decide +kernel⟩
  · exact ⟨30, by decide, by decide +kernel⟩
  · exact ⟨90, by decide, by decide +kernel⟩
  · exact ⟨19, by decide, by decide +kernel⟩
theorem pickCt {i : Int} (h0 : 0 ≤ i) (h : i < 2) : ∃ c : List Nat, isC c ∧ atI ([sV "each", sV "one"] : List Va) i = some (.str c) := by
  have : i = 0 ∨ i = 1 := by omega
  rcases this with rfl | rfl
  · exact ⟨_, .inl rfl, rfl⟩
  · exact ⟨_, .inr rfl, rfl⟩
theorem pickNm {i : Int} (h0 : 0 ≤ i) (h : i < 2) : ∃ c : List Nat, isN c ∧ atI ([sV "home", sV "far"] : List Va) i = some (.str c) := by
  have : i = 0 ∨ i = 1 := by omega
  rcases this with rfl | rfl
  · exact ⟨_, .inl rfl, rfl⟩
  · exact ⟨_, .inr rfl, rfl⟩
theorem pickDt {i : Int} (h0 : 0 ≤ i) (h : i < 6) : ∃ d : Dy, d.ok ∧ atI ([sV "2024-03-31", sV "2024-10-27", sV "2024-03-10", sV "2024-11-03", sV "2024-04-02", sV "2024-10-06"] : List Va) i = some (.str d.t) := by
  have : i = 0 ∨ i = 1 ∨ i = 2 ∨ i = 3 ∨ i = 4 ∨ i = 5 := by omega
  rcases this with rfl | rfl | rfl | rfl | rfl | rfl
  · exact ⟨⟨24, 3, 31⟩, dy_ok (by decide +kernel), by decide +kernel⟩
  · exact ⟨⟨24, 10, 27⟩, dy_ok (by decide +kernel), by decide +kernel⟩
  · exact ⟨⟨24, 3, 10⟩, dy_ok (by decide +kernel), by decide +kernel⟩
  · exact ⟨⟨24, 11, 3⟩, dy_ok (by decide +kernel), by decide +kernel⟩
  · exact ⟨⟨24, 4, 2⟩, dy_ok (by decide +kernel), by decide +kernel⟩
  · exact ⟨⟨24, 10, 6⟩, dy_ok (by decide +kernel), by decide +kernel⟩
theorem pickTm {i : Int} (h0 : 0 ≤ i) (h : i < 4) : ∃ t : Nat, t < 1440 ∧ atI ([sV "02:30", sV "01:30", sV "00:00", sV "23:59"] : List Va) i = some (.str (tmT t)) := by
  have : i = 0 ∨ i = 1 ∨ i = 2 ∨ i = 3 := by omega
  rcases this with rfl | rfl | rfl | rfl
  · exact ⟨150, by decide, by decide +kernel⟩
  · exact ⟨90, by decide, by decide +kernel⟩
  · exact ⟨0, by decide, by decide +kernel⟩
  · exact ⟨1439, by decide, by decide +kernel⟩
theorem nat_of {i : Int} (h : 0 ≤ i) : ∃ v : Nat, i = (v : Int) := ⟨i.toNat, by omega⟩
end Wk50
end
section
namespace Wk50
open PySem PySem.Spec PyProof.Rows L2 Mi
open TL
theorem ck_all (r : Ru) (g : r.good) : ∀ w ∈ r.ws, ck w = true := fun w hw => by
  unfold Ru.ws at hw
  simp only [List.mem_append] at hw
  have cc : ∀ s ∈ ["every", "on", "at", "from", "until", "but", "last"], ck (wv s) = true := by decide +kernel
  have cd : ∀ x : Dy, x.ok → ck x.t = true := fun x h => ck_dt h
  have cn : ∀ k < 401, ck (numL k) = true := by decide +kernel
  have cw : ∀ k < 7, ck (wdT k) = true := by decide +kernel
  have cnt : ∀ k < 5, ck (ntT k) = true := by decide +kernel
  have ct : ∀ t < 1440, ck (tmT t) = true := fun t ht => by
    simp [ck, tmT, d2]
    omega
  obtain ⟨i, hi⟩ := r.k.mem
  have ku := (kds _ hi).2.2.2.2.2.2
  rcases hw with h | h | h | h | h | h | h
  · unfold stW at h
    by_cases c : r.s = 1
    · rw [if_pos c] at h
      rw [List.mem_singleton.mp h]
      exact ku.1
    · rw [if_neg c] at h
      rcases List.mem_cons.mp h with rfl | h
      · exact cc "every" (by simp)
      · rcases List.mem_cons.mp h with rfl | h
        · have := g.s2
          exact cn _ (by omega)
        · rw [List.mem_singleton.mp h]
          exact ku.2.1
  · have gk := g.k
    cases hk : r.k with
    | days => rw [hk] at h; cases h
    | weeks os =>
      rw [hk] at h gk
      rcases List.mem_cons.mp h with rfl | h
      · exact cc "on" (by simp)
      · obtain ⟨k, hk, rfl⟩ := List.mem_map.mp h
        exact cw k (gk.2.2.1 k hk)
    | last =>
      rw [hk] at h
      rcases List.mem_cons.mp h with rfl | h
      · exact cc "on" (by simp)
      · rw [List.mem_singleton.mp h]
        exact cc "last" (by simp)
    | nth nt wd =>
      rw [hk] at h gk
      rcases List.mem_cons.mp h with rfl | h
      · exact cc "on" (by simp)
      · rcases List.mem_cons.mp h with rfl | h
        · exact cnt nt gk.1
        · rw [List.mem_singleton.mp h]
          exact cw wd gk.2
    | months os =>
      rw [hk] at h gk
      rcases List.mem_cons.mp h with rfl | h
      · exact cc "on" (by simp)
      · obtain ⟨k, hk, rfl⟩ := List.mem_map.mp h
        have := gk.2.2.1 k hk
        exact cn k (by omega)
    | years os =>
      rw [hk] at h gk
      rcases List.mem_cons.mp h with rfl | h
      · exact cc "on" (by simp)
      · obtain ⟨p, hp, rfl⟩ := List.mem_map.mp h
        have i := gk.2.2.1 p hp
        have m1 := i.m2
        have d1 := i.d2
        have := mlen_hi 2000 (p.1 : Int)
        simp [ck, mdT, d2]
        omega
  · rw [List.mem_singleton.mp h]
    exact cc "at" (by simp)
  · obtain ⟨t, ht, rfl⟩ := List.mem_map.mp h
    exact ct t (g.t2 t ht)
  · rcases List.mem_cons.mp h with rfl | h
    · exact cc "from" (by simp)
    · rw [List.mem_singleton.mp h]
      exact cd _ g.f
  · cases hl : r.la with
    | none => rw [hl] at h; cases h
    | some x =>
      rw [hl] at h
      rcases List.mem_cons.mp h with rfl | h
      · exact cc "until" (by simp)
      · rw [List.mem_singleton.mp h]
        exact cd _ (g.la x hl).1
  · unfold butW at h
    by_cases c : r.but = []
    · rw [if_pos c] at h
      cases h
    · rw [if_neg c] at h
      rcases List.mem_cons.mp h with rfl | h
      · exact cc "but" (by simp)
      · obtain ⟨x, hx, rfl⟩ := List.mem_map.mp h
        exact cd _ (g.b2 x hx)
open TL
def AlOk (al : Bool) (q : Res Va) (S : Store) : Prop := ∃ a : Al, a.good ∧ q = .ok (.str (joinL [32] a.ws)) S
theorem p_minI {a b : Int} : pr .min [.int a, .int b] = some (.int (if b < a then b else a)) := rfl
theorem cat3 {x y : List Nat} (h : x.length + y.length ≤ 100000) : b2 .add (.str x) (.str y) = some (.str (x ++ y)) := q_addS h
theorem law_alarm_text_ok (n : Nat) (ns : List Int) (al : Bool) (S : Store) : AlOk al (Dx.run (G (n + 2)) d__law_alarm_text [.scr ns, .int 0, .bl al] S) S := by
  obtain ⟨N, hN⟩ : ∃ N, N = mixN ns 0 := ⟨_, rfl⟩
  have N0 : 0 ≤ N := hN ▸ mixN_lo ns 0
  obtain ⟨w, hw, ew⟩ := pickWn (i := N / 8 % 5) (by omega) (by omega)
  obtain ⟨c, hc, ec⟩ := pickCt (i := N / 40 % 2) (by omega) (by omega)
  obtain ⟨nm, hnm, en⟩ := pickNm (i := N / 80 % 2) (by omega) (by omega)
  rw [run_d rfl]
  simp only [d__law_alarm_text, k__law_alarm_text]
  simp [k__law_alarm_text_t0, f__law_mix, mix_ok, ← hN]
  simp [k__law_alarm_text_t1, q_mod, q_div, ew]
  have lw := (numL_len (n := w) (k := 5) (by decide) (by show w < 100000; omega))
  have l1 := hd_len al
  have l2 := tl_len (al := al) (w := w) (by omega)
  have e2 : ∀ s6 s7 s8 s9 s10 s11 s12, evK (G (n + 2)) k__law_alarm_text_t2 [.val (.scr ns), .val (.int 0), .val (.bl al), .val (.int N), .val (.str (numL w)), .no, s6, s7, s8, s9, s10, s11, s12] S = evK (G (n + 2)) k__law_alarm_text_t4 [.val (.scr ns), .val (.int 0), .val (.bl al), .val (.int N), .val (.str (numL w)), .val (.str (tlT al w)), .val (.str (hdT al)), s7, s8, s9, s10, s11, s12] S := fun s6 s7 s8 s9 s10 s11 s12 => by
    cases al with
    | true =>
      simp [k__law_alarm_text_t2, k__law_alarm_text_t3]
      rfl
    | false =>
      have a1 : b2 .add (sV " window ") (.str (numL w)) = some (.str (tlT false w)) := by
        have e : (wv " window ").length = 8 := rfl
        exact cat3 (x := wv " window ") (by omega)
      simp [k__law_alarm_text_t2, k__law_alarm_text_t3, a1]
      rfl
  rw [e2]
  simp [k__law_alarm_text_t4, q_mod, q_div, ec]
  simp [k__law_alarm_text_t5, q_mod, q_div, en]
  have lc : c.length ≤ 4 := by rcases hc with rfl | rfl <;> decide
  have ln : nm.length ≤ 4 := by rcases hnm with rfl | rfl <;> decide
  by_cases c1 : N % 8 < 2
  · obtain ⟨v, hv, ev⟩ := at_ints (ns := [0, 1, 30, 700, N / 160 % 3000]) (k := N / 160 % 5) (by omega) (by simp; omega)
    simp only [List.map_cons, List.map_nil] at ev
    have hv2 : 0 ≤ v ∧ v < 3000 := by
      simp at hv
      omega
    obtain ⟨v, rfl⟩ := nat_of hv2.1
    have lv := (numL_len (n := v) (k := 5) (by decide) (by show v < 100000; omega))
    have ea : (wv "after ").length = 6 := rfl
    have a1 : b2 .add (.str (hdT al)) (sV "after ") = some (.str (hdT al ++ wv "after ")) := cat3 (y := wv "after ") (by omega)
    have a2 : b2 .add (.str (hdT al ++ wv "after ")) (.str (numL v)) = some (.str (hdT al ++ wv "after " ++ numL v)) := cat3 (by simp; omega)
    have a3 : b2 .add (.str (hdT al ++ wv "after " ++ numL v)) (.str (tlT al w)) = some (.str (joinL [32] (Al.ws ⟨al, w, .after v⟩))) := by
      rw [cat3 (by simp; omega)]
      show _ = some (Va.str (joinL [32] (alW al ++ ([wv "after", numL v] ++ wwW al w))))
      rw [J1 (by simp), J2 (by simp), joinL_cons (by simp)]
      have e : wv "after " = wv "after" ++ [32] := rfl
      rw [e]
      simp [joinL]
    obtain ⟨X1, hX1⟩ : ∃ X1, X1 = hdT al ++ wv "after " := ⟨_, rfl⟩
    rw [← hX1] at a1 a2 a3
    obtain ⟨X2, hX2⟩ : ∃ X2, X2 = X1 ++ numL v := ⟨_, rfl⟩
    rw [← hX2] at a2 a3
    refine ⟨⟨al, w, .after v⟩, ⟨by show w < 100000; omega, by show v < 100000; omega⟩, ?_⟩
    simp [k__law_alarm_text_t6, q_mod, q_div, c1, ev, p_strN (show v < 100000 by omega), a1, a2, a3]
  by_cases c2 : N % 8 < 5
  · obtain ⟨st, hst, est⟩ := at_ints (ns := [40, 60, 1440, 40 + N / 160 % 300]) (k := N / 160 % 4) (by omega) (by simp; omega)
    simp only [List.map_cons, List.map_nil] at est
    have hst2 : 40 ≤ st ∧ st ≤ 1440 := by
      simp at hst
      omega
    obtain ⟨f, hf⟩ : ∃ f : Nat, N / 640 % 100 = (f : Int) := nat_of (by omega)
    obtain ⟨w2, hw2⟩ : ∃ w2 : Nat, (if st - 1 < (w : Int) then st - 1 else (w : Int)) = (w2 : Int) := nat_of (by split <;> omega)
    have w2l : (w2 : Int) ≤ st - 1 ∧ w2 ≤ 90 := by
      split at hw2 <;> omega
    obtain ⟨s, hs⟩ := nat_of (i := st) (by omega)
    subst hs
    have ls := (numL_len (n := s) (k := 5) (by decide) (by show s < 100000; omega))
    have lf := (numL_len (n := f) (k := 5) (by decide) (by show f < 100000; omega))
    have lw2 := (numL_len (n := w2) (k := 5) (by decide) (by show w2 < 100000; omega))
    have l2' := tl_len (al := al) (w := w2) (by omega)
    have e1 : (wv " first ").length = 7 := rfl
    have e3 : (wv "every ").length = 6 := rfl
    have e4 : (wv " window ").length = 8 := rfl
    have e5 : (wv " ").length = 1 := rfl
    have b1 : b2 .add (sV " window ") (.str (numL w2)) = some (.str (wv " window " ++ numL w2)) := cat3 (x := wv " window ") (by omega)
    have b2' : b2 .add (sV " first ") (.str (numL f)) = some (.str (wv " first " ++ numL f)) := cat3 (x := wv " first ") (by omega)
    have a1 : b2 .add (.str (hdT al)) (sV "every ") = some (.str (hdT al ++ wv "every ")) := cat3 (y := wv "every ") (by omega)
    have a2 : b2 .add (.str (hdT al ++ wv "every ")) (.str (numL s)) = some (.str (hdT al ++ wv "every " ++ numL s)) := cat3 (by simp; omega)
    have a3 : b2 .add (.str (hdT al ++ wv "every " ++ numL s)) (.str (wv " first " ++ numL f)) = some (.str (hdT al ++ wv "every " ++ numL s ++ (wv " first " ++ numL f))) := cat3 (by simp; omega)
    have a4 : b2 .add (.str (hdT al ++ wv "every " ++ numL s ++ (wv " first " ++ numL f))) (.str (tlT al w2)) = some (.str (hdT al ++ wv "every " ++ numL s ++ (wv " first " ++ numL f) ++ tlT al w2)) := cat3 (by simp; omega)
    have a5 : b2 .add (.str (hdT al ++ wv "every " ++ numL s ++ (wv " first " ++ numL f) ++ tlT al w2)) (sV " ") = some (.str (hdT al ++ wv "every " ++ numL s ++ (wv " first " ++ numL f) ++ tlT al w2 ++ wv " ")) := cat3 (y := wv " ") (by simp; omega)
    have a6 : b2 .add (.str (hdT al ++ wv "every " ++ numL s ++ (wv " first " ++ numL f) ++ tlT al w2 ++ wv " ")) (.str c) = some (.str (joinL [32] (Al.ws ⟨al, w2, .every s f c⟩))) := by
      rw [cat3 (by simp; omega)]
      show _ = some (Va.str (joinL [32] (alW al ++ ([wv "every", numL s, wv "first", numL f] ++ (wwW al w2 ++ [c])))))
      rw [J1 (by simp), J3 (by simp) (by simp), joinL_cons (by simp), joinL_cons (by simp), joinL_cons (by simp)]
      have e : wv "every " = wv "every" ++ [32] := rfl
      have e' : wv " first " = 32 :: wv "first" ++ [32] := rfl
      have e'' : wv " " = [32] := rfl
      rw [e, e', e'']
      simp [joinL]
    obtain ⟨X1, hX1⟩ : ∃ X1, X1 = hdT al ++ wv "every " := ⟨_, rfl⟩
    rw [← hX1] at a1 a2 a3 a4 a5 a6
    obtain ⟨X2, hX2⟩ : ∃ X2, X2 = X1 ++ numL s := ⟨_, rfl⟩
    rw [← hX2] at a2 a3 a4 a5 a6
    obtain ⟨Y, hY⟩ : ∃ Y, Y = wv " first " ++ numL f := ⟨_, rfl⟩
    rw [← hY] at b2' a3 a4 a5 a6
    obtain ⟨X3, hX3⟩ : ∃ X3, X3 = X2 ++ Y := ⟨_, rfl⟩
    rw [← hX3] at a3 a4 a5 a6
    obtain ⟨X4, hX4⟩ : ∃ X4, X4 = X3 ++ tlT al w2 := ⟨_, rfl⟩
    rw [← hX4] at a4 a5 a6
    obtain ⟨X5, hX5⟩ : ∃ X5, X5 = X4 ++ wv " " := ⟨_, rfl⟩
    rw [← hX5] at a5 a6
    refine ⟨⟨al, w2, .every s f c⟩, ⟨by show w2 < 100000; omega, ⟨by omega, by omega, by omega, hc, fun _ => by show w2 + 1 ≤ s; omega⟩⟩, ?_⟩
    have p1 := p_minI (a := (w : Int)) (b := (s : Int) - 1)
    rw [hw2] at p1
    have iw := intN (v := w) (by omega)
    have sw := p_strN (k := w2) (by omega)
    have ss := p_strN (k := s) (by omega)
    have sf := p_strN (k := f) (by omega)
    cases al with
    | true =>
      have tt : sV "" = .str (tlT true w2) := rfl
      simp [k__law_alarm_text_t6, q_mod, q_div, c1, k__law_alarm_text_t7, c2, est, tt, hf, sf, b2', ss, a1, a2, a3, a4, a5, a6]
    | false =>
      have tt : wv " window " ++ numL w2 = tlT false w2 := rfl
      rw [tt] at b1
      simp [k__law_alarm_text_t6, q_mod, q_div, c1, k__law_alarm_text_t7, c2, est, iw, p1, sw, b1, hf, sf, b2', ss, a1, a2, a3, a4, a5, a6]
  by_cases c3 : N % 8 = 5
  · obtain ⟨d, hd, ed⟩ := pickDt (i := N / 160 % 6) (by omega) (by omega)
    obtain ⟨t, ht, et⟩ := pickTm (i := N / 960 % 4) (by omega) (by omega)
    have ld := dt_len d
    have lt : (tmT t).length = 5 := rfl
    have e3 : (wv "at ").length = 3 := rfl
    have e5 : (wv " ").length = 1 := rfl
    have a1 : b2 .add (.str (hdT al)) (sV "at ") = some (.str (hdT al ++ wv "at ")) := cat3 (y := wv "at ") (by omega)
    have a2 : b2 .add (.str (hdT al ++ wv "at ")) (.str nm) = some (.str (hdT al ++ wv "at " ++ nm)) := cat3 (by simp; omega)
    have a3 : b2 .add (.str (hdT al ++ wv "at " ++ nm)) (sV " ") = some (.str (hdT al ++ wv "at " ++ nm ++ wv " ")) := cat3 (y := wv " ") (by simp; omega)
    have a4 : b2 .add (.str (hdT al ++ wv "at " ++ nm ++ wv " ")) (.str d.t) = some (.str (hdT al ++ wv "at " ++ nm ++ wv " " ++ d.t)) := cat3 (by simp; omega)
    have a5 : b2 .add (.str (hdT al ++ wv "at " ++ nm ++ wv " " ++ d.t)) (sV " ") = some (.str (hdT al ++ wv "at " ++ nm ++ wv " " ++ d.t ++ wv " ")) := cat3 (y := wv " ") (by simp; omega)
    have a6 : b2 .add (.str (hdT al ++ wv "at " ++ nm ++ wv " " ++ d.t ++ wv " ")) (.str (tmT t)) = some (.str (hdT al ++ wv "at " ++ nm ++ wv " " ++ d.t ++ wv " " ++ tmT t)) := cat3 (by simp; omega)
    have a7 : b2 .add (.str (hdT al ++ wv "at " ++ nm ++ wv " " ++ d.t ++ wv " " ++ tmT t)) (.str (tlT al w)) = some (.str (joinL [32] (Al.ws ⟨al, w, .at_ nm d t⟩))) := by
      rw [cat3 (by simp; omega)]
      show _ = some (Va.str (joinL [32] (alW al ++ ([wv "at", nm, d.t, tmT t] ++ wwW al w))))
      rw [J1 (by simp), J2 (by simp), joinL_cons (by simp), joinL_cons (by simp), joinL_cons (by simp)]
      have e : wv "at " = wv "at" ++ [32] := rfl
      have e'' : wv " " = [32] := rfl
      rw [e, e'']
      simp [joinL]
    obtain ⟨X1, hX1⟩ : ∃ X1, X1 = hdT al ++ wv "at " := ⟨_, rfl⟩
    rw [← hX1] at a1 a2 a3 a4 a5 a6 a7
    obtain ⟨X2, hX2⟩ : ∃ X2, X2 = X1 ++ nm := ⟨_, rfl⟩
    rw [← hX2] at a2 a3 a4 a5 a6 a7
    obtain ⟨X3, hX3⟩ : ∃ X3, X3 = X2 ++ wv " " := ⟨_, rfl⟩
    rw [← hX3] at a3 a4 a5 a6 a7
    obtain ⟨X4, hX4⟩ : ∃ X4, X4 = X3 ++ d.t := ⟨_, rfl⟩
    rw [← hX4] at a4 a5 a6 a7
    obtain ⟨X5, hX5⟩ : ∃ X5, X5 = X4 ++ wv " " := ⟨_, rfl⟩
    rw [← hX5] at a5 a6 a7
    obtain ⟨X6, hX6⟩ : ∃ X6, X6 = X5 ++ tmT t := ⟨_, rfl⟩
    rw [← hX6] at a6 a7
    refine ⟨⟨al, w, .at_ nm d t⟩, ⟨by show w < 100000; omega, hnm, hd, ht⟩, ?_⟩
    simp [k__law_alarm_text_t6, q_mod, q_div, c1, k__law_alarm_text_t7, c2, k__law_alarm_text_t8, c3, ed, et, a1, a2, a3, a4, a5, a6, a7]
  · obtain ⟨r, hr, lr, er⟩ := law_rule_text_ok (n + 1) (N := N / 160) S
    obtain ⟨_, r2, r3⟩ := ok_ws hr
    have e3 : (wv "by ").length = 3 := rfl
    have e5 : (wv " ").length = 1 := rfl
    have e6 : (wv " when ").length = 6 := rfl
    have b1 : b2 .add (.str (tlT al w)) (sV " ") = some (.str (tlT al w ++ wv " ")) := cat3 (y := wv " ") (by omega)
    have b2' : b2 .add (.str (tlT al w ++ wv " ")) (.str c) = some (.str (tlT al w ++ wv " " ++ c)) := cat3 (by simp; omega)
    have a1 : b2 .add (.str (hdT al)) (sV "by ") = some (.str (hdT al ++ wv "by ")) := cat3 (y := wv "by ") (by omega)
    have a2 : b2 .add (.str (hdT al ++ wv "by ")) (.str nm) = some (.str (hdT al ++ wv "by " ++ nm)) := cat3 (by simp; omega)
    have a3 : b2 .add (.str (hdT al ++ wv "by " ++ nm)) (.str (tlT al w ++ wv " " ++ c)) = some (.str (hdT al ++ wv "by " ++ nm ++ (tlT al w ++ wv " " ++ c))) := cat3 (by simp; omega)
    have a4 : b2 .add (.str (hdT al ++ wv "by " ++ nm ++ (tlT al w ++ wv " " ++ c))) (sV " when ") = some (.str (hdT al ++ wv "by " ++ nm ++ (tlT al w ++ wv " " ++ c) ++ wv " when ")) := cat3 (y := wv " when ") (by simp; omega)
    have a5 : b2 .add (.str (hdT al ++ wv "by " ++ nm ++ (tlT al w ++ wv " " ++ c) ++ wv " when ")) (.str (joinL [32] r.ws)) = some (.str (joinL [32] (Al.ws ⟨al, w, .by_ nm c r⟩))) := by
      rw [cat3 (by simp; omega)]
      show _ = some (Va.str (joinL [32] (alW al ++ ([wv "by", nm] ++ (wwW al w ++ ([c, wv "when"] ++ r.ws))))))
      rw [J1 (by simp), J3 (by simp) (by simp), joinL_app (L := [c, wv "when"]) r3 (by simp), joinL_cons (p := wv "by") (L := [nm]) (by simp), joinL_cons (p := c) (L := [wv "when"]) (by simp)]
      have e : wv "by " = wv "by" ++ [32] := rfl
      have e' : wv " when " = 32 :: wv "when" ++ [32] := rfl
      have e'' : wv " " = [32] := rfl
      rw [e, e', e'']
      simp [joinL]
    obtain ⟨X1, hX1⟩ : ∃ X1, X1 = hdT al ++ wv "by " := ⟨_, rfl⟩
    rw [← hX1] at a1 a2 a3 a4 a5
    obtain ⟨X2, hX2⟩ : ∃ X2, X2 = X1 ++ nm := ⟨_, rfl⟩
    rw [← hX2] at a2 a3 a4 a5
    obtain ⟨Y1, hY1⟩ : ∃ Y1, Y1 = tlT al w ++ wv " " := ⟨_, rfl⟩
    rw [← hY1] at b1 b2' a3 a4 a5
    obtain ⟨Y, hY⟩ : ∃ Y, Y = Y1 ++ c := ⟨_, rfl⟩
    rw [← hY] at b2' a3 a4 a5
    obtain ⟨X3, hX3⟩ : ∃ X3, X3 = X2 ++ Y := ⟨_, rfl⟩
    rw [← hX3] at a3 a4 a5
    obtain ⟨X4, hX4⟩ : ∃ X4, X4 = X3 ++ wv " when " := ⟨_, rfl⟩
    rw [← hX4] at a4 a5
    refine ⟨⟨al, w, .by_ nm c r⟩, ⟨by show w < 100000; omega, hnm, hc, hr⟩, ?_⟩
    simp [k__law_alarm_text_t6, q_mod, q_div, c1, k__law_alarm_text_t7, c2, k__law_alarm_text_t8, c3, k__law_alarm_text_t9, b1, b2', k__law_alarm_text_t10, f__law_rule_text, er, a1, a2, a3, a4, a5]
theorem g_tuple (n : Nat) : (G n).glo "tuple" = some (.ty "tuple") := by cases n <;> rfl
theorem g_bool (n : Nat) : (G n).glo "bool" = some (.ty "bool") := by cases n <;> rfl
theorem ne_same {w : Va} (h : cl 8 w = true) : co .ne w w = some (.bl false) := by
  rw [q_neV h h]
  simp
theorem eq_same {w : Va} (h : cl 8 w = true) : co .eq w w = some (.bl true) := by
  rw [q_eqV h h]
  simp
theorem cl_ints {n : Nat} {os : List Nat} : (os.map iV).all (cl n) = true := by
  rw [List.all_eq_true]
  intro x hx
  obtain ⟨k, _, rfl⟩ := List.mem_map.mp hx
  exact cl_int n _
theorem cl_on (K : Kd) : cl 6 K.on = true := by
  cases K with
  | days => rfl
  | weeks os => exact cl_ints
  | last => rfl
  | nth nt wd => simp [Kd.on, iV]
  | months os => exact cl_ints
  | years os =>
    show (os.map pairV).all (cl 5) = true
    rw [List.all_eq_true]
    intro x hx
    obtain ⟨p, _, rfl⟩ := List.mem_map.mp hx
    simp [pairV, iV]
theorem cl_ru (r : Ru) : cl 7 r.v = true := by
  have u : cl 6 (sV r.k.un) = true := by
    obtain ⟨i, h⟩ := r.k.mem
    have c := (kds _ h).2.2.2.2.2.2.2.1
    rw [wvV, c_str']
    simpa [ck] using c
  have o := cl_on r.k
  have t : cl 6 (.tup (r.tm.map iV)) = true := cl_ints
  have b : cl 6 (.tup (r.but.map fun x => .int x.n)) = true := by simp
  have l : cl 6 (laV r.la) = true := by cases r.la <;> simp [laV]
  show ([sV r.k.un, iV r.s, r.k.on, .tup (r.tm.map iV), .int r.f.n, laV r.la, .tup (r.but.map fun x => .int x.n)] : List Va).all (cl 6) = true
  simp only [List.all_cons, u, o, t, b, l, iV, c_int', List.all_nil, Bool.and_true, Bool.and_self]
theorem ck_C {c : List Nat} (h : isC c) : ∀ x ∈ c, x < 1114112 := by rcases h with rfl | rfl <;> decide
theorem ck_N {c : List Nat} (h : isN c) : ∀ x ∈ c, x < 1114112 := by rcases h with rfl | rfl <;> decide
theorem cl_ww (al : Bool) (w : Nat) : cl 7 (wwV al w) = true := by cases al <;> simp [wwV, iV]
theorem cl_kd : ∀ s ∈ ["after", "every", "at", "by"], cl 7 (sV s) = true := by decide +kernel
theorem cl_al {a : Al} (g : a.good) : cl 8 a.v = true := by
  obtain ⟨al, w, K⟩ := a
  have gk : K.good al w := g.2
  have w7 := cl_ww al w
  show cl 8 (K.v (wwV al w)) = true
  cases K with
  | after v =>
    have k := cl_kd "after" (by simp)
    simp [Ak.v, iV, w7, k]
  | every s f c =>
    have k := cl_kd "every" (by simp)
    have cc := ck_C gk.2.2.2.1
    simp [Ak.v, iV, w7, k]
    exact cc
  | at_ nm d t =>
    have k := cl_kd "at" (by simp)
    have cc := ck_N gk.1
    simp [Ak.v, iV, w7, k]
    exact cc
  | by_ nm c r =>
    have k := cl_kd "by" (by simp)
    have cr := cl_ru r
    have c1 := ck_N gk.1
    have c2 := ck_C gk.2.1
    simp [Ak.v, iV, w7, k, cr]
    exact ⟨c1, c2⟩
theorem parts_of (a : Al) : ∃ l : List Va, a.v = .tup l ∧ l.length ≤ 5 ∧ ∀ x ∈ l, pr .isinst [x, .ty "bool"] = some (.bl false) := by
  obtain ⟨al, w, K⟩ := a
  have hw : pr .isinst [wwV al w, .ty "bool"] = some (.bl false) := by cases al <;> rfl
  have hr : ∀ r : Ru, pr .isinst [r.v, .ty "bool"] = some (.bl false) := fun r => rfl
  have hs : ∀ s, pr .isinst [.str s, .ty "bool"] = some (.bl false) := fun s => rfl
  have hi : ∀ s, pr .isinst [.int s, .ty "bool"] = some (.bl false) := fun s => rfl
  cases K with
  | after v =>
    refine ⟨_, rfl, by simp, fun x hx => ?_⟩
    simp only [List.mem_cons, List.not_mem_nil, or_false] at hx
    rcases hx with rfl | rfl | rfl
    · exact hs _
    · exact hi _
    · exact hw
  | every s f c =>
    refine ⟨_, rfl, by simp, fun x hx => ?_⟩
    simp only [List.mem_cons, List.not_mem_nil, or_false] at hx
    rcases hx with rfl | rfl | rfl | rfl | rfl
    · exact hs _
    · exact hi _
    · exact hi _
    · exact hw
    · exact hs _
  | at_ nm d t =>
    refine ⟨_, rfl, by simp, fun x hx => ?_⟩
    simp only [List.mem_cons, List.not_mem_nil, or_false] at hx
    rcases hx with rfl | rfl | rfl | rfl
    · exact hs _
    · exact hs _
    · exact hi _
    · exact hw
  | by_ nm c r =>
    refine ⟨_, rfl, by simp, fun x hx => ?_⟩
    simp only [List.mem_cons, List.not_mem_nil, or_false] at hx
    rcases hx with rfl | rfl | rfl | rfl | rfl
    · exact hs _
    · exact hs _
    · exact hr r
    · exact hw
    · exact hs _
theorem lcnt0 (l : List Va) : lcntV (.lst (l.map fun _ => Va.bl false)) (.bl true) = some (.int 0) := by
  have e : (l.map fun _ => Va.bl false) = (List.replicate l.length false).map Va.bl := by
    rw [List.map_replicate, List.map_const']
  have q : blsOf ((List.replicate l.length false).map Va.bl) = some (List.replicate l.length false) := blsOf_map _
  rw [e]
  show (blsOf ((List.replicate l.length false).map Va.bl)).map (fun bs => Va.int ((bs.count true : Nat) : Int)) = _
  rw [q]
  simp [List.count_replicate]
theorem ck_join : ∀ {L : List (List Nat)}, (∀ w ∈ L, ck w = true) → ck (joinL [32] L) = true
  | [], _ => rfl
  | [p], h => h p List.mem_cons_self
  | p :: q :: r, h => by
    have ih := ck_join (L := q :: r) fun w hw => h w (List.mem_cons_of_mem _ hw)
    have hp := h p List.mem_cons_self
    show ck (p ++ ([32] ++ joinL [32] (q :: r))) = true
    unfold ck at ih hp ⊢
    rw [List.all_append, List.all_append, hp, ih]
    rfl
theorem ck_tm {t : Nat} (h : t < 1440) : ck (tmT t) = true := by
  simp [ck, tmT, d2]
  omega
theorem ck_as : ∀ s ∈ ["along", "window", "after", "every", "first", "at", "by", "when", "each", "one", "home", "far"], ck (wv s) = true := by decide +kernel
theorem ck_C' {c : List Nat} (h : isC c) : ck c = true := by rcases h with rfl | rfl <;> decide
theorem ck_N' {c : List Nat} (h : isN c) : ck c = true := by rcases h with rfl | rfl <;> decide
theorem ck_ww {al : Bool} {w : Nat} : ∀ x ∈ wwW al w, ck x = true := fun x hx => by
  cases al with
  | true => cases hx
  | false =>
    have hx : x ∈ [wv "window", numL w] := hx
    rcases List.mem_cons.mp hx with rfl | hx
    · exact ck_as "window" (by simp)
    · rw [List.mem_singleton.mp hx]
      exact ck_nL w
theorem cl_text {a : Al} (g : a.good) : cl 8 (.str (joinL [32] a.ws)) = true := by
  have key : ∀ x ∈ a.ws, ck x = true := fun x hx => by
    obtain ⟨al, w, K⟩ := a
    have gk : K.good al w := g.2
    rcases List.mem_append.mp hx with h | hx
    · cases al with
      | true =>
        rw [List.mem_singleton.mp h]
        exact ck_as "along" (by simp)
      | false => cases h
    · have hx : x ∈ K.ws (wwW al w) := hx
      cases K with
      | after v =>
        rcases List.mem_cons.mp hx with rfl | hx
        · exact ck_as "after" (by simp)
        rcases List.mem_cons.mp hx with rfl | hx
        · exact ck_nL v
        · exact ck_ww x hx
      | every s f c =>
        rcases List.mem_cons.mp hx with rfl | hx
        · exact ck_as "every" (by simp)
        rcases List.mem_cons.mp hx with rfl | hx
        · exact ck_nL s
        rcases List.mem_cons.mp hx with rfl | hx
        · exact ck_as "first" (by simp)
        rcases List.mem_cons.mp hx with rfl | hx
        · exact ck_nL f
        rcases List.mem_append.mp hx with hx | hx
        · exact ck_ww x hx
        · rw [List.mem_singleton.mp hx]
          exact ck_C' gk.2.2.2.1
      | at_ nm d t =>
        rcases List.mem_cons.mp hx with rfl | hx
        · exact ck_as "at" (by simp)
        rcases List.mem_cons.mp hx with rfl | hx
        · exact ck_N' gk.1
        rcases List.mem_cons.mp hx with rfl | hx
        · exact ck_dt gk.2.1
        rcases List.mem_cons.mp hx with rfl | hx
        · exact ck_tm gk.2.2
        · exact ck_ww x hx
      | by_ nm c r =>
        rcases List.mem_cons.mp hx with rfl | hx
        · exact ck_as "by" (by simp)
        rcases List.mem_cons.mp hx with rfl | hx
        · exact ck_N' gk.1
        rcases List.mem_append.mp hx with hx | hx
        · exact ck_ww x hx
        rcases List.mem_cons.mp hx with rfl | hx
        · exact ck_C' gk.2.1
        rcases List.mem_cons.mp hx with rfl | hx
        · exact ck_as "when" (by simp)
        · exact ck_all r gk.2.2 x hx
  have c := ck_join key
  rw [c_str']
  simpa [ck] using c
theorem plain : Plain P 11 := fun ns _ => by
  show ∃ _ _, _
  suffices h : ∃ S', Dx.run (G 10) d_law [.scr ns] [] = .ok (.bl true) S' by
    obtain ⟨S', h⟩ := h
    exact ⟨_, S', rfl, h⟩
  obtain ⟨al, hal⟩ : ∃ al, al = decide (mixN ns 1 % 3 = 0) := ⟨_, rfl⟩
  obtain ⟨a, g, ht⟩ := law_alarm_text_ok 7 ns al []
  obtain ⟨S1, hr⟩ := read_alarm_text 0 [] g
  obtain ⟨S2, hp⟩ := law_parts_ok 0 S1 g
  have hx := alarm_text_ok 4 S2 g
  have c8 := cl_al g
  have ne := ne_same c8
  obtain ⟨l, hv, hl, hb⟩ := parts_of a
  have et : co .eq (.str (joinL [32] a.ws)) (.str (joinL [32] a.ws)) = some (.bl true) := by
    have hck : ∀ w ∈ a.ws, True := fun _ _ => trivial
    exact eq_same (cl_text g)
  rw [run_d rfl]
  simp only [d_law, k_law]
  simp [k_law_t0, f__law_mix, mix_ok, q_mod, ← hal, f__law_alarm_text, ht]
  simp [k_law_t1, f_read_alarm, hr]
  simp [k_law_t2, f__law_parts, hp]
  rw [hv] at ne hx ⊢
  have it : pr .isinst [.tup l, .ty "tuple"] = some (.bl true) := rfl
  simp [k_law_t3, g_tuple, it, ne, -q_neV]
  have lc := lcW_onY (γ := G 10) (tg := .one 4) (vs := [4]) (e := .prim .isinst (.acons (.var 4) (.acons (.glo "bool") .anil))) (env := [.val (.scr ns), .val (.str (joinL [32] a.ws)), .val (.tup l), .val (.tup l), .no]) (S := S2) (xs := l) (fun x => x) (fun _ => .bl false) (le_line (by omega)) fun x hx => ⟨_, rfl, by simp [wipeE, g_bool, hb x hx]⟩
  rw [List.map_id'] at lc
  have l0 := lcnt0 l
  rw [lc]
  simp [-List.map_const, l0, k_law_t4, f_alarm_text, hx, et, -q_eqV]
end Wk50
end
section
set_option maxHeartbeats 0
namespace Wk50
open PySem PySem.Spec PyProof.Rows L2 Mi
def loose : List Str := [("WakeError" : Str), ("BadDate" : Str), ("BadRule" : Str), ("BadAlarm" : Str), ("FIRST_YEAR_days" : Str), ("LAST_YEAR_days" : Str), ("LENGTHS" : Str), ("ZERO" : Str), ("DAY" : Str), ("is_leap" : Str), ("month_length" : Str), ("before_year" : Str), ("day_of" : Str), ("FIRST_DAY" : Str), ("LAST_DAY" : Str), ("year_of" : Str), ("date_of" : Str), ("FIGURES" : Str), ("WEEKDAYS" : Str), ("NTHS" : Str), ("UNITS" : Str), ("PLAIN" : Str), ("MOST_STEP" : Str), ("MOST_TIMES" : Str), ("Words" : Str), ("is_figures" : Str), ("time_of" : Str), ("date_in" : Str), ("month_day_in" : Str), ("read_some" : Str), ("weekday_in" : Str), ("month_part" : Str), ("read_month" : Str), ("read_kind" : Str), ("read_kind_words" : Str), ("read_on" : Str), ("read_date" : Str), ("read" : Str), ("read_rule" : Str), ("two" : Str), ("time_text" : Str), ("date_text" : Str), ("on_text" : Str), ("written" : Str), ("LETTERS" : Str), ("MOST_NAME" : Str), ("MOST" : Str), ("FIRST_YEAR_alarms" : Str), ("LAST_YEAR_alarms" : Str), ("CATCHES" : Str), ("is_name" : Str), ("read_number" : Str), ("read_window" : Str), ("read_catch" : Str), ("read_name" : Str), ("is_within" : Str), ("read_at" : Str), ("read_kind_alarms" : Str), ("read_alarm" : Str), ("window_of" : Str), ("alarm_text" : Str), ("_law_cell" : Str), ("_law_mix" : Str), ("_law_whole" : Str), ("_law_length" : Str), ("_law_new_year" : Str), ("_law_day" : Str), ("_law_date" : Str), ("_law_nth" : Str), ("_law_town" : Str), ("_law_begin" : Str), ("_law_rule_text" : Str), ("_law_alarm_text" : Str), ("_law_parts" : Str)]
abbrev R : PySem.W.OpenRow := PySem.W.OpenLaw.row PySem.Challenge.rw_wakewell_k50_whole_alarms
abbrev hk : PySem.W.Hook := He.hookX 4 P.fa ((P.defs ++ P.xin).map Dx.toD) [] [] P.ex
def ob (s : PySem.W.SharedT) : He.AlX := He.obsX 4 P.fa ((P.defs ++ P.xin).map Dx.toD) [] [] P.ex (HandSHeadRun.getT s)
theorem ob_eq (s : PySem.W.SharedT) : ob s = hk.obs s.abs := He.obsX_eq (HandSHeadRun.getT_eq s)
theorem run (w : World) : HandSHeadRun.RunEq R (PySem.W.view R.prog [80]) hk ob 4000 loose w := by
  intro os
  kernel_rfl
theorem holds {n : Nat} (hr : Room (2 * n) callerA) (plain : Plain P n) : PySem.Challenge.rw_wakewell_k50_whole_alarms.Holds := by
  w_on; o_law
  refine HandSHeadRun.head_any (r := PySem.W.OpenLaw.row PySem.Challenge.rw_wakewell_k50_whole_alarms) (q := PySem.W.view (PySem.W.OpenLaw.row PySem.Challenge.rw_wakewell_k50_whole_alarms).prog [80]) (H := hk) (ob := ob) (M := 4000) (loose := loose) (d := HandSHeadRun.topDef (PySem.W.OpenLaw.row PySem.Challenge.rw_wakewell_k50_whole_alarms).prog 80) (kwd := []) ob_eq
    (by kernel_rfl) (fun s => by kernel_rfl) run (by kernel_rfl) (by kernel_rfl) (by kernel_rfl) (by rfl) (by first | assumption | decide +kernel) (by decide +kernel) ⟨rfl, rfl, rfl, rfl, rfl, by decide +kernel⟩ ?hw ?hc
  case hw => w_witness2
  case hc => exact law_end (l := PySem.Challenge.rw_wakewell_k50_whole_alarms) rfl (by kernel_rfl) (by kernel_rfl) hr good ⟨d_law, by rfl, by decide +kernel⟩ plain
end Wk50
end
theorem PySem.Challenge.cw_wakewell_k50_whole_alarms_holds : PySem.Challenge.rw_wakewell_k50_whole_alarms.Holds :=
  Wk50.holds (n := 11) ⟨rfl, by decide, by decide⟩ Wk50.plain
