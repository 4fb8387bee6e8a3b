import PyProof.Rows.All
import Wide.All
import OpenK.AllK
import Wide.FinOn
import PySem.Challenge.RW_homedoings_k48_folds_in_any_sequence
import HandS.ForMost
import HandS.Exc
import HandS.ExcOwn
import HandS.ExcSuper
import HandS.WordsExc
import HandS.Conv
import HandS.Style
import HandS.TupAny
import HandS.SortInts
import HandS.Flow
import HandS.Steps
import HandS.TupMul
import HandS.Deep
import HandS.WordsList
import HandS.DictTup
import HandS.SetKeys
import HandS.TupLen
import KE.KDictKeyed
import KE.GoesMore
import HandS.Iter
import HandS.More
import KE.SortData
import KE.KDictWalk
import PyProof.FactsAll.tuple_2
import HandS.Words
import HandS.ForSpec
import KE.KExcSuper
import KE.KExcInit
import PyProof.ReprRoads
import HandS.EndOwn
import KE.KNestM
import HandS.Lambda
import HandS.ListItems
import KE.RegKSuper
set_option Elab.async false
set_option linter.all false
set_option maxRecDepth 100000
/-! HxCore: data D, a store of mutable objects, how they lie in the abstract heap of the hand layer; ends of readings. -/
namespace Hx
open PySem PySem.Spec PyProof.Rows L2

/-! ### data -/
inductive D where
  | non | bl (b : Bool) | int (i : Int) | str (x : Str)
  | tup (ds : List D) | lst (ds : List D)
  | dK (kvs : List (Key × D)) | dT (kvs : List (List Key × D)) | obj (n : Nat)
  /-- the script -/
  | scr (ns : List Int)

abbrev Store := List D

namespace D
mutual
def beq : D → D → Bool
  | .non, .non => true
  | .bl a, .bl b => decide (a = b)
  | .int a, .int b => decide (a = b)
  | .str a, .str b => decide (a = b)
  | .tup a, .tup b => beqL a b
  | .lst a, .lst b => beqL a b
  | .dK a, .dK b => beqK a b
  | .dT a, .dT b => beqT a b
  | .obj a, .obj b => decide (a = b)
  | .scr a, .scr b => decide (a = b)
  | _, _ => false
def beqL : List D → List D → Bool
  | [], [] => true
  | a :: r, b :: t => beq a b && beqL r t
  | _, _ => false
def beqK : List (Key × D) → List (Key × D) → Bool
  | [], [] => true
  | (k, a) :: r, (j, b) :: t => decide (k = j) && (beq a b && beqK r t)
  | _, _ => false
def beqT : List (List Key × D) → List (List Key × D) → Bool
  | [], [] => true
  | (k, a) :: r, (j, b) :: t => decide (k = j) && (beq a b && beqT r t)
  | _, _ => false
end
mutual
theorem beq_rfl : ∀ a : D, beq a a = true
  | .non => by simp [beq]
  | .bl a => by simp [beq]
  | .int a => by simp [beq]
  | .str a => by simp [beq]
  | .tup a => by simp only [beq]; exact beqL_rfl a
  | .lst a => by simp only [beq]; exact beqL_rfl a
  | .dK a => by simp only [beq]; exact beqK_rfl a
  | .dT a => by simp only [beq]; exact beqT_rfl a
  | .obj a => by simp [beq]
  | .scr a => by simp [beq]
theorem beqL_rfl : ∀ a : List D, beqL a a = true
  | [] => by simp [beqL]
  | a :: r => by simp only [beqL, beq_rfl a, beqL_rfl r, Bool.and_self]
theorem beqK_rfl : ∀ a : List (Key × D), beqK a a = true
  | [] => by simp [beqK]
  | (k, a) :: r => by simp only [beqK, beq_rfl a, beqK_rfl r, Bool.and_self, decide_true]
theorem beqT_rfl : ∀ a : List (List Key × D), beqT a a = true
  | [] => by simp [beqT]
  | (k, a) :: r => by simp only [beqT, beq_rfl a, beqT_rfl r, Bool.and_self, decide_true]
end
mutual
theorem eq_of : ∀ a b : D, beq a b = true → a = b := fun a b h => by
  cases a <;> cases b <;> first
    | rfl
    | (simp only [beq, decide_eq_true_eq] at h; rw [h])
    | (simp only [beq] at h; rw [eq_ofL _ _ h])
    | (simp only [beq] at h; rw [eq_ofK _ _ h])
    | (simp only [beq] at h; rw [eq_ofT _ _ h])
    | (simp [beq] at h)
theorem eq_ofL : ∀ a b : List D, beqL a b = true → a = b
  | [], [], _ => rfl
  | a :: r, b :: t, h => by
    simp only [beqL, Bool.and_eq_true] at h
    rw [eq_of a b h.1, eq_ofL r t h.2]
  | [], _ :: _, h => by simp [beqL] at h
  | _ :: _, [], h => by simp [beqL] at h
theorem eq_ofK : ∀ a b : List (Key × D), beqK a b = true → a = b
  | [], [], _ => rfl
  | (k, a) :: r, (j, b) :: t, h => by
    simp only [beqK, Bool.and_eq_true, decide_eq_true_eq] at h
    rw [h.1, eq_of a b h.2.1, eq_ofK r t h.2.2]
  | [], _ :: _, h => by simp [beqK] at h
  | _ :: _, [], h => by simp [beqK] at h
theorem eq_ofT : ∀ a b : List (List Key × D), beqT a b = true → a = b
  | [], [], _ => rfl
  | (k, a) :: r, (j, b) :: t, h => by
    simp only [beqT, Bool.and_eq_true, decide_eq_true_eq] at h
    rw [h.1, eq_of a b h.2.1, eq_ofT r t h.2.2]
  | [], _ :: _, h => by simp [beqT] at h
  | _ :: _, [], h => by simp [beqT] at h
end
instance : DecidableEq D := fun a b => decidable_of_iff (beq a b = true) ⟨eq_of a b, fun h => by subst h; exact beq_rfl a⟩

/-! objects of the store replaced: g says by what -/
mutual
def sub (g : Nat → Option D) : D → Option D
  | .tup ds => (subL g ds).map .tup
  | .lst ds => (subL g ds).map .lst
  | .dK kvs => (subK g kvs).map .dK
  | .dT kvs => (subT g kvs).map .dT
  | .obj n => g n
  | .scr ns => some (.scr ns)
  | .non => some .non
  | .bl b => some (.bl b)
  | .int i => some (.int i)
  | .str x => some (.str x)
def subL (g : Nat → Option D) : List D → Option (List D)
  | [] => some []
  | d :: r => match sub g d, subL g r with
    | some d', some r' => some (d' :: r')
    | _, _ => none
def subK (g : Nat → Option D) : List (Key × D) → Option (List (Key × D))
  | [] => some []
  | (k, d) :: r => match sub g d, subK g r with
    | some d', some r' => some ((k, d') :: r')
    | _, _ => none
def subT (g : Nat → Option D) : List (List Key × D) → Option (List (List Key × D))
  | [] => some []
  | (k, d) :: r => match sub g d, subT g r with
    | some d', some r' => some ((k, d') :: r')
    | _, _ => none
end
mutual
def pure : D → Bool
  | .tup ds => pureL ds
  | .lst ds => pureL ds
  | .dK kvs => pureK kvs
  | .dT kvs => pureT kvs
  | .obj _ => false
  | .scr _ => true
  | .non => true
  | .bl _ => true
  | .int _ => true
  | .str _ => true
def pureL : List D → Bool
  | [] => true
  | d :: r => pure d && pureL r
def pureK : List (Key × D) → Bool
  | [] => true
  | (_, d) :: r => pure d && pureK r
def pureT : List (List Key × D) → Bool
  | [] => true
  | (_, d) :: r => pure d && pureT r
end
mutual
theorem sub_pure (g : Nat → Option D) : ∀ d : D, d.pure = true → sub g d = some d
  | .non, _ => rfl
  | .bl b, _ => rfl
  | .int i, _ => rfl
  | .str x, _ => rfl
  | .tup ds, h => by simp only [sub, subL_pure g ds (by simpa [pure] using h), Option.map_some]
  | .lst ds, h => by simp only [sub, subL_pure g ds (by simpa [pure] using h), Option.map_some]
  | .dK ds, h => by simp only [sub, subK_pure g ds (by simpa [pure] using h), Option.map_some]
  | .dT ds, h => by simp only [sub, subT_pure g ds (by simpa [pure] using h), Option.map_some]
  | .obj n, h => by simp [pure] at h
  | .scr ns, _ => rfl
theorem subL_pure (g : Nat → Option D) : ∀ ds : List D, pureL ds = true → subL g ds = some ds
  | [], _ => rfl
  | d :: r, h => by
    simp only [pureL, Bool.and_eq_true] at h
    simp only [subL, sub_pure g d h.1, subL_pure g r h.2]
theorem subK_pure (g : Nat → Option D) : ∀ ds : List (Key × D), pureK ds = true → subK g ds = some ds
  | [], _ => rfl
  | (k, d) :: r, h => by
    simp only [pureK, Bool.and_eq_true] at h
    simp only [subK, sub_pure g d h.1, subK_pure g r h.2]
theorem subT_pure (g : Nat → Option D) : ∀ ds : List (List Key × D), pureT ds = true → subT g ds = some ds
  | [], _ => rfl
  | (k, d) :: r, h => by
    simp only [pureT, Bool.and_eq_true] at h
    simp only [subT, sub_pure g d h.1, subT_pure g r h.2]
end
end D
/-- what stands for the object i where all objects from m on go: its contents, k deep -/
def deep (m : Nat) (S : Store) : Nat → Nat → Option D
  | 0, i => if i < m then some (.obj i) else none
  | k + 1, i => if i < m then some (.obj i) else match S[i]? with
    | some (.lst ds) => D.sub (deep m S k) (.lst ds)
    | some (.dK ds) => D.sub (deep m S k) (.dK ds)
    | some (.dT ds) => D.sub (deep m S k) (.dT ds)
    | _ => none
def frz (m : Nat) (S : Store) (d : D) : Option D := D.sub (deep m S 3) d
theorem frz_pure {m : Nat} {S : Store} {d : D} (h : d.pure = true) : frz m S d = some d := D.sub_pure _ d h
/-- the objects below m: as they were, or without objects from m on -/
def okS (m : Nat) : Store → Store → Bool
  | d :: r, d' :: r' => (decide (d = d') || decide (D.sub (fun i => if i < m then some (.obj i) else none) d' = some d')) && okS m r r'
  | [], _ => true
  | _ :: _, [] => false

/-! ### the relation -/
structure Cn where
  P : Program
  w : World
  K : PySem.W.Frag
  tg : Addr
structure Wd where
  φ : Nat → Addr
  n : Nat
  H : Hp
  /-- guarded: what a comprehension fills -/
  pr : Addr → Prop
def Free (W : Wd) (a : Addr) : Prop := (∀ i, i < W.n → W.φ i ≠ a) ∧ ¬ W.pr a
/-- a tuple, a list of the module's written part -/
def WrT (K : PySem.W.Frag) (a : Addr) (xs : List V) : Prop :=
  ∃ (o : Obj) (its : Array Value) (n : Nat), K.lookup a = some o ∧ o.cls = .type "tuple" ∧ o.data = .seq its n ∧ its.size ≤ sizeLine ∧ Vals xs its.toList
def WrL (K : PySem.W.Frag) (a : Addr) (xs : List V) : Prop :=
  ∃ (o : Obj) (its : Array Value) (n : Nat), K.lookup a = some o ∧ o.cls = .type "list" ∧ o.dict = none ∧ o.data = .seq its n ∧ its.size ≤ sizeLine ∧ Vals xs its.toList
def TupAt (W : Wd) (a : Addr) (xs : List V) : Prop := W.H a = some (.tup xs) ∧ Free W a
def LstAt (W : Wd) (a : Addr) (xs : List V) : Prop := W.H a = some (.lst xs) ∧ Free W a
def ScrAt (K : PySem.W.Frag) (W : Wd) (a : Addr) (xs : List V) : Prop := (Rd W.H a (.lst xs) ∧ Free W a) ∨ WrL K a xs
theorem TupAt.sq {K : PySem.W.Frag} {W : Wd} {a : Addr} {xs : List V} (h : TupAt W a xs) : SqT K W.H a xs := .inl (.inl h.1)
theorem LstAt.sq {K : PySem.W.Frag} {W : Wd} {a : Addr} {xs : List V} (h : LstAt W a xs) : SqL K W.H a xs := .inl (.inl h.1)
theorem ScrAt.sq {K : PySem.W.Frag} {W : Wd} {a : Addr} {xs : List V} : ScrAt K W a xs → SqL K W.H a xs
  | .inl h => .inl h.1
  | .inr h => .inr h

section
variable (K : PySem.W.Frag) (W : Wd)
mutual
def Rep : D → V → Prop
  | .non, v => v = .non
  | .bl b, v => v = .bl b
  | .int i, v => v = .int i
  | .str x, v => v = .str x
  | .tup ds, v => ∃ a vs, v = .ref a ∧ TupAt W a vs ∧ RepL ds vs
  | .lst ds, v => ∃ a vs, v = .ref a ∧ LstAt W a vs ∧ RepL ds vs
  | .scr ns, v => ∃ a, v = .ref a ∧ ScrAt K W a (ns.map V.int)
  | .dK kvs, v => ∃ a ws, v = .ref a ∧ (Rd W.H a (.dK ws) ∧ Free W a) ∧ RepK kvs ws
  | .dT kvs, v => ∃ a ws, v = .ref a ∧ (Rd W.H a (.dT ws) ∧ Free W a) ∧ RepT kvs ws
  | .obj i, v => i < W.n ∧ v = .ref (W.φ i)
def RepL : List D → List V → Prop
  | [], vs => vs = []
  | d :: ds, vs => ∃ v r, vs = v :: r ∧ Rep d v ∧ RepL ds r
def RepK : List (Key × D) → List (Key × V) → Prop
  | [], vs => vs = []
  | (k, d) :: ds, vs => ∃ v r, vs = (k, v) :: r ∧ Rep d v ∧ RepK ds r
def RepT : List (List Key × D) → List (List Key × V) → Prop
  | [], vs => vs = []
  | (k, d) :: ds, vs => ∃ v r, vs = (k, v) :: r ∧ Rep d v ∧ RepT ds r
end
/-- the object of the store at a -/
def Ob (a : Addr) : D → Prop
  | .lst ds => ∃ vs, W.H a = some (.lst vs) ∧ RepL K W ds vs
  | .dK kvs => ∃ ws, W.H a = some (.dK ws) ∧ RepK K W kvs ws
  | .dT kvs => ∃ ws, W.H a = some (.dT ws) ∧ RepT K W kvs ws
  | _ => False
/-- a container -/
def Ctn : HO → Prop
  | .lst _ => True
  | .dK _ => True
  | .dT _ => True
  | _ => False
structure SOk (S : Store) : Prop where
  len : S.length = W.n
  inj : ∀ i j, i < W.n → j < W.n → W.φ i = W.φ j → i = j
  prs : ∀ a, W.pr a → (∃ o, W.H a = some o ∧ Ctn o) ∧ ∀ i, i < W.n → W.φ i ≠ a
  ob : ∀ i d, S[i]? = some d → Ob K W (W.φ i) d
end
/-- kept while it is so, whatever stands around: a locked thing -/
def Fz : HO → Prop
  | .frz _ _ => True
  | _ => False
/-- a dict, that may be locked at any time -/
def Fb : HO → Prop
  | .dK _ => True
  | .dT _ => True
  | _ => False
structure Le (W W' : Wd) : Prop where
  le : W.n ≤ W'.n
  agree : ∀ i, i < W.n → W'.φ i = W.φ i
  pr1 : ∀ a, W.pr a → W'.pr a
  pr2 : ∀ a, W'.pr a → W.pr a ∨ W.H a = none
  keep : ∀ a o, W.H a = some o → (Free W a ∨ Fz o ∨ W.pr a) → W'.H a = some o ∨ (Fb o ∧ ∃ ob, W'.H a = some (.frz ob o))
  dom : ∀ a, W.H a ≠ none → W'.H a ≠ none
  new : ∀ i, W.n ≤ i → i < W'.n → W.H (W'.φ i) = none
theorem Le.refl (W : Wd) : Le W W := ⟨Nat.le_refl _, fun _ _ => rfl, fun _ h => h, fun _ h => .inl h, fun _ _ h _ => .inl h, fun _ h => h, fun i h1 h2 => absurd h2 (Nat.not_lt.mpr h1)⟩
theorem Free.le {W W' : Wd} (l : Le W W') {a : Addr} (h : Free W a) (hd : W.H a ≠ none) : Free W' a := ⟨fun i hi e => by
  by_cases hw : i < W.n
  · rw [l.agree i hw] at e
    exact h.1 i hw e
  · have := l.new i (by omega) hi
    rw [e] at this
    exact hd this, fun z => by
  rcases l.pr2 a z with z | z
  · exact h.2 z
  · exact hd z⟩
theorem Le.trans {W W1 W2 : Wd} (l : Le W W1) (m : Le W1 W2) : Le W W2 where
  le := Nat.le_trans l.le m.le
  agree := fun i hi => (m.agree i (Nat.lt_of_lt_of_le hi l.le)).trans (l.agree i hi)
  pr1 := fun a h => m.pr1 a (l.pr1 a h)
  pr2 := fun a h => by
    rcases m.pr2 a h with z | z
    · exact l.pr2 a z
    · cases q : W.H a with
      | none => exact .inr rfl
      | some o => exact absurd z (l.dom a (by rw [q]; simp))
  keep := fun a o h hf => by
    rcases l.keep a o h hf with q | ⟨fb, ob, q⟩
    · refine m.keep a o q ?_
      rcases hf with hf | hf | hf
      · exact .inl (hf.le l (by rw [h]; simp))
      · exact .inr (.inl hf)
      · exact .inr (.inr (l.pr1 a hf))
    · rcases m.keep a _ q (.inr (.inl True.intro)) with z | ⟨z, _⟩
      · exact .inr ⟨fb, ob, z⟩
      · exact z.elim
  dom := fun a h => m.dom a (l.dom a h)
  new := fun i h1 h2 => by
    by_cases hi : i < W1.n
    · rw [m.agree i hi]
      exact l.new i h1 hi
    · have h3 := m.new i (by omega) h2
      cases q : W.H (W2.φ i) with
      | none => rfl
      | some o => exact absurd h3 (l.dom _ (by rw [q]; simp))
/-- fewer objects of the store -/
theorem Le.cut {W W' : Wd} (l : Le W W') {m : Nat} (h1 : W.n ≤ m) (h2 : m ≤ W'.n) : Le W ⟨W'.φ, m, W'.H, W'.pr⟩ :=
  ⟨h1, l.agree, l.pr1, l.pr2, l.keep, l.dom, fun i a b => l.new i a (Nat.lt_of_lt_of_le b h2)⟩

theorem Rd.le {W W' : Wd} (l : Le W W') {a : Addr} {u : HO} (hu : ∀ ps, u ≠ .tbl ps) (h : Rd W.H a u ∧ Free W a) : Rd W'.H a u ∧ Free W' a := by
  obtain ⟨h | ⟨o, h⟩, f⟩ := h
  · refine ⟨?_, f.le l (by rw [h]; simp)⟩
    rcases l.keep a _ h (.inl f) with q | ⟨_, ob, q⟩
    · exact .inl q
    · exact .inr ⟨ob, q⟩
  · refine ⟨.inr ⟨o, ?_⟩, f.le l (by rw [h]; simp)⟩
    rcases l.keep a _ h (.inl f) with q | ⟨z, _⟩
    · exact q
    · exact z.elim
/-- what the reading of a datum leans on -/
structure Lw (W W' : Wd) : Prop where
  le : W.n ≤ W'.n
  agree : ∀ i, i < W.n → W'.φ i = W.φ i
  rd : ∀ a u, (∀ ps, u ≠ .tbl ps) → Rd W.H a u ∧ Free W a → Rd W'.H a u ∧ Free W' a
  ls : ∀ a xs, LstAt W a xs → LstAt W' a xs
  ts : ∀ a xs, TupAt W a xs → TupAt W' a xs
theorem Le.lw {W W' : Wd} (l : Le W W') : Lw W W' := ⟨l.le, l.agree, fun _ _ hu h => Rd.le l hu h, fun a xs h => ⟨by
  rcases l.keep a _ h.1 (.inl h.2) with q | ⟨q, _⟩
  · exact q
  · exact q.elim, h.2.le l (by rw [h.1]; simp)⟩, fun a xs h => ⟨by
  rcases l.keep a _ h.1 (.inl h.2) with q | ⟨q, _⟩
  · exact q
  · exact q.elim, h.2.le l (by rw [h.1]; simp)⟩⟩
section
variable {K : PySem.W.Frag} {W W' : Wd}
theorem ScrAt.le (l : Lw W W') {a : Addr} {xs : List V} : ScrAt K W a xs → ScrAt K W' a xs
  | .inl h => .inl (l.rd _ _ (fun _ e => nomatch e) h)
  | .inr h => .inr h
mutual
theorem Rep.lw (l : Lw W W') : ∀ {d : D} {v : V}, Rep K W d v → Rep K W' d v
  | .non, _, h => h
  | .bl b, _, h => h
  | .int i, _, h => h
  | .str x, _, h => h
  | .tup ds, _, h => by
    obtain ⟨a, vs, e, t, r⟩ := h
    exact ⟨a, vs, e, l.ts _ _ t, RepL.lw l r⟩
  | .lst ds, _, h => by
    obtain ⟨a, vs, e, t, r⟩ := h
    exact ⟨a, vs, e, l.ls _ _ t, RepL.lw l r⟩
  | .scr ns, _, h => by
    obtain ⟨a, e, t⟩ := h
    exact ⟨a, e, t.le l⟩
  | .dK ds, _, h => by
    obtain ⟨a, vs, e, t, r⟩ := h
    exact ⟨a, vs, e, l.rd _ _ (fun _ e => nomatch e) t, RepK.lw l r⟩
  | .dT ds, _, h => by
    obtain ⟨a, vs, e, t, r⟩ := h
    exact ⟨a, vs, e, l.rd _ _ (fun _ e => nomatch e) t, RepT.lw l r⟩
  | .obj i, _, h => ⟨Nat.lt_of_lt_of_le h.1 l.le, by rw [l.agree i h.1]; exact h.2⟩
theorem RepL.lw (l : Lw W W') : ∀ {ds : List D} {vs : List V}, RepL K W ds vs → RepL K W' ds vs
  | [], _, h => h
  | _ :: _, _, h => by
    obtain ⟨v, r, e, h1, h2⟩ := h
    exact ⟨v, r, e, Rep.lw l h1, RepL.lw l h2⟩
theorem RepK.lw (l : Lw W W') : ∀ {ds : List (Key × D)} {vs : List (Key × V)}, RepK K W ds vs → RepK K W' ds vs
  | [], _, h => h
  | (_, _) :: _, _, h => by
    obtain ⟨v, r, e, h1, h2⟩ := h
    exact ⟨v, r, e, Rep.lw l h1, RepK.lw l h2⟩
theorem RepT.lw (l : Lw W W') : ∀ {ds : List (List Key × D)} {vs : List (List Key × V)}, RepT K W ds vs → RepT K W' ds vs
  | [], _, h => h
  | (_, _) :: _, _, h => by
    obtain ⟨v, r, e, h1, h2⟩ := h
    exact ⟨v, r, e, Rep.lw l h1, RepT.lw l h2⟩
end
theorem Rep.le (l : Le W W') {d : D} {v : V} (h : Rep K W d v) : Rep K W' d v := Rep.lw l.lw h
theorem RepL.le (l : Le W W') {d : List D} {v : List V} (h : RepL K W d v) : RepL K W' d v := RepL.lw l.lw h
theorem RepK.le (l : Le W W') {d : List (Key × D)} {v : List (Key × V)} (h : RepK K W d v) : RepK K W' d v := RepK.lw l.lw h
theorem RepT.le (l : Le W W') {d : List (List Key × D)} {v : List (List Key × V)} (h : RepT K W d v) : RepT K W' d v := RepT.lw l.lw h
/-- an object of the store that stands as it was -/
theorem Ob.lw (l : Lw W W') {a : Addr} {d : D} (ha : W'.H a = W.H a) (h : Ob K W a d) : Ob K W' a d := by
  cases d with
  | lst ds => obtain ⟨vs, e, r⟩ := h; exact ⟨vs, by rw [ha]; exact e, r.lw l⟩
  | dK ds => obtain ⟨vs, e, r⟩ := h; exact ⟨vs, by rw [ha]; exact e, r.lw l⟩
  | dT ds => obtain ⟨vs, e, r⟩ := h; exact ⟨vs, by rw [ha]; exact e, r.lw l⟩
  | _ => exact h.elim
theorem Ob.le (l : Le W W') {a : Addr} {d : D} (ha : W'.H a = W.H a) (h : Ob K W a d) : Ob K W' a d := Ob.lw l.lw ha h
end
end Hx
set_option Elab.async false
set_option linter.all false
set_option maxRecDepth 100000
/-! HxPrim: the few moves of the relation: something new, a new object of the store, an object changed, objects that go. -/
namespace Hx
open PySem PySem.Spec PyProof.Rows L2
section
variable {K : PySem.W.Frag} {W W' : Wd} {S : Store} {p : Addr} {o : HO}

theorem Ob.there {a : Addr} {d : D} (h : Ob K W a d) : W.H a ≠ none := by
  cases d with
  | lst ds => obtain ⟨vs, e, r⟩ := h; rw [e]; simp
  | dK ds => obtain ⟨vs, e, r⟩ := h; rw [e]; simp
  | dT ds => obtain ⟨vs, e, r⟩ := h; rw [e]; simp
  | _ => exact h.elim
theorem SOk.prn (h : SOk K W S) {a : Addr} (z : W.pr a) : W.H a ≠ none := by
  obtain ⟨⟨o, e, _⟩, _⟩ := h.prs a z
  rw [e]
  simp
theorem SOk.at_ (h : SOk K W S) {i : Nat} (hi : i < W.n) : ∃ d, S[i]? = some d ∧ Ob K W (W.φ i) d := by
  have hl : i < S.length := by rw [h.len]; exact hi
  exact ⟨S[i], List.getElem?_eq_getElem hl, h.ob i _ (List.getElem?_eq_getElem hl)⟩
theorem SOk.here (h : SOk K W S) {i : Nat} (hi : i < W.n) : W.H (W.φ i) ≠ none := by
  obtain ⟨d, _, q⟩ := h.at_ hi
  exact q.there
theorem SOk.free (h : SOk K W S) (hp : W.H p = none) : Free W p := ⟨fun i hi e => h.here hi (by rw [e]; exact hp), fun z => h.prn z hp⟩
theorem SOk.lt (h : SOk K W S) {i : Nat} {d : D} (e : S[i]? = some d) : i < W.n := by
  rw [← h.len]
  exact (List.getElem?_eq_some_iff.mp e).1

/-- a tuple is no container -/
theorem SOk.tup (h : SOk K W S) {a : Addr} {ws : List V} (e : W.H a = some (.tup ws)) : Free W a := ⟨fun i hi z => by
  obtain ⟨d, _, q⟩ := h.at_ hi
  rw [z] at q
  cases d with
  | lst ds => obtain ⟨vs, e', _⟩ := q; rw [e] at e'; cases e'
  | dK ds => obtain ⟨vs, e', _⟩ := q; rw [e] at e'; cases e'
  | dT ds => obtain ⟨vs, e', _⟩ := q; rw [e] at e'; cases e'
  | _ => exact q.elim, fun z => by
  obtain ⟨⟨u, eu, c⟩, _⟩ := h.prs a z
  rw [e] at eu
  cases eu
  exact c⟩
/-! ### something new -/
theorem Le.laid (hp : W.H p = none) : Le W ⟨W.φ, W.n, upd W.H p o, W.pr⟩ where
  le := Nat.le_refl _
  agree := fun _ _ => rfl
  pr1 := fun _ h => h
  pr2 := fun _ h => .inl h
  keep := fun a u h _ => by
    refine .inl ?_
    show upd W.H p o a = some u
    rw [upd_ne (ne_of_none h hp)]
    exact h
  dom := fun a h => by
    show upd W.H p o a ≠ none
    by_cases e : a = p
    · rw [e, upd_same]; simp
    · rw [upd_ne e]; exact h
  new := fun i h1 h2 => absurd h2 (Nat.not_lt.mpr h1)
theorem SOk.laid (h : SOk K W S) (hp : W.H p = none) : SOk K ⟨W.φ, W.n, upd W.H p o, W.pr⟩ S where
  len := h.len
  inj := h.inj
  prs := fun a ha => ⟨by
    obtain ⟨⟨u, e, c⟩, _⟩ := h.prs a ha
    exact ⟨u, by
      show upd W.H p o a = _
      rw [upd_ne (ne_of_none e hp)]
      exact e, c⟩, (h.prs a ha).2⟩
  ob := fun i d e => (h.ob i d e).le (Le.laid hp) (upd_ne (fun z => h.here (h.lt e) (by rw [z]; exact hp)))

/-! ### a new object of the store -/
def Wd.more (W : Wd) (p : Addr) (o : HO) : Wd := ⟨fun i => if i = W.n then p else W.φ i, W.n + 1, upd W.H p o, W.pr⟩
theorem more_lt {i : Nat} (h : i < W.n) : (W.more p o).φ i = W.φ i := by
  show (if i = W.n then p else W.φ i) = W.φ i
  rw [if_neg (by omega)]
theorem more_at : (W.more p o).φ W.n = p := by
  show (if W.n = W.n then p else _) = p
  rw [if_pos rfl]
theorem Le.more (hp : W.H p = none) : Le W (W.more p o) where
  le := Nat.le_succ _
  agree := fun i hi => more_lt hi
  pr1 := fun _ h => h
  pr2 := fun _ h => .inl h
  keep := (Le.laid (o := o) hp).keep
  dom := (Le.laid (o := o) hp).dom
  new := fun i h1 h2 => by
    have e : i = W.n := by
      have : i < W.n + 1 := h2
      omega
    rw [e, more_at]
    exact hp
theorem SOk.more (h : SOk K W S) (hp : W.H p = none) {d : D} (hd : Ob K (W.more p o) p d) : SOk K (W.more p o) (S ++ [d]) where
  len := by
    rw [List.length_append, h.len]
    rfl
  inj := fun i j hi hj e => by
    have hi' : i < W.n + 1 := hi
    have hj' : j < W.n + 1 := hj
    by_cases ei : i = W.n
    · by_cases ej : j = W.n
      · omega
      · rw [ei, more_at, more_lt (by omega)] at e
        exact absurd (by rw [← e]; exact hp) (h.here (show j < W.n by omega))
    · by_cases ej : j = W.n
      · rw [ej, more_at, more_lt (by omega)] at e
        exact absurd (by rw [e]; exact hp) (h.here (show i < W.n by omega))
      · rw [more_lt (by omega), more_lt (by omega)] at e
        exact h.inj i j (by omega) (by omega) e
  prs := fun a ha => ⟨by
    obtain ⟨⟨u, e, c⟩, _⟩ := h.prs a ha
    exact ⟨u, by
      show upd W.H p o a = _
      rw [upd_ne (ne_of_none e hp)]
      exact e, c⟩, fun i hi e => by
    have hi' : i < W.n + 1 := hi
    by_cases ei : i = W.n
    · rw [ei, more_at] at e
      exact h.prn ha (by rw [← e]; exact hp)
    · rw [more_lt (by omega)] at e
      exact (h.prs a ha).2 i (by omega) e⟩
  ob := fun i c e => by
    by_cases hi : i < S.length
    · rw [List.getElem?_append_left hi] at e
      have hw : i < W.n := by rw [← h.len]; exact hi
      rw [more_lt hw]
      exact (h.ob i c e).le (Le.more hp) (upd_ne (fun z => h.here hw (by rw [z]; exact hp)))
    · have hl := (List.getElem?_eq_some_iff.mp e).1
      rw [List.length_append, List.length_singleton] at hl
      have ei : i = S.length := by omega
      subst ei
      rw [List.getElem?_append_right (Nat.le_refl _), Nat.sub_self] at e
      cases e
      rw [h.len, more_at]
      exact hd

/-! ### an object changed -/
def Cont : D → Prop
  | .lst _ => True
  | .dK _ => True
  | .dT _ => True
  | _ => False
theorem SOk.notFz (h : SOk K W S) {i : Nat} {c : D} (e : S[i]? = some c) (hc : Cont c) {u : HO} (hu : W.H (W.φ i) = some u) : ¬ Fz u := by
  have q := h.ob i c e
  cases c with
  | lst ds => obtain ⟨vs, e', _⟩ := q; rw [hu] at e'; cases e'; exact id
  | dK ds => obtain ⟨vs, e', _⟩ := q; rw [hu] at e'; cases e'; exact id
  | dT ds => obtain ⟨vs, e', _⟩ := q; rw [hu] at e'; cases e'; exact id
  | _ => exact hc.elim
theorem Le.put (h : SOk K W S) {i : Nat} {c : D} (e : S[i]? = some c) (hc : Cont c) : Le W ⟨W.φ, W.n, upd W.H (W.φ i) o, W.pr⟩ where
  le := Nat.le_refl _
  agree := fun _ _ => rfl
  pr1 := fun _ h => h
  pr2 := fun _ h => .inl h
  keep := fun a u hu hf => by
    refine .inl ?_
    show upd W.H (W.φ i) o a = some u
    rw [upd_ne ?_]
    · exact hu
    · intro z
      subst z
      rcases hf with hf | hf | hf
      · exact hf.1 i (h.lt e) rfl
      · exact h.notFz e hc hu hf
      · exact (h.prs _ hf).2 i (h.lt e) rfl
  dom := fun a ha => by
    show upd W.H (W.φ i) o a ≠ none
    by_cases z : a = W.φ i
    · rw [z, upd_same]; simp
    · rw [upd_ne z]; exact ha
  new := fun i h1 h2 => absurd h2 (Nat.not_lt.mpr h1)
theorem SOk.put (h : SOk K W S) {i : Nat} {c d : D} (e : S[i]? = some c) (hc : Cont c) (hd : Ob K ⟨W.φ, W.n, upd W.H (W.φ i) o, W.pr⟩ (W.φ i) d) : SOk K ⟨W.φ, W.n, upd W.H (W.φ i) o, W.pr⟩ (S.set i d) where
  len := by
    rw [List.length_set]
    exact h.len
  inj := h.inj
  prs := fun a ha => ⟨by
    obtain ⟨⟨u, eu, c⟩, z⟩ := h.prs a ha
    exact ⟨u, by
      show upd W.H (W.φ i) o a = _
      rw [upd_ne (fun q => z i (h.lt e) q.symm)]
      exact eu, c⟩, (h.prs a ha).2⟩
  ob := fun j u ej => by
    by_cases z : j = i
    · subst z
      rw [List.getElem?_set_self (by rw [h.len]; exact h.lt e)] at ej
      cases ej
      exact hd
    · rw [List.getElem?_set_ne (fun q => z q.symm)] at ej
      exact (h.ob j u ej).le (Le.put h e hc) (upd_ne fun q => z (h.inj j i (h.lt ej) (h.lt e) q))

/-! ### objects that go -/
def below (m : Nat) (i : Nat) : Option D := if i < m then some (.obj i) else none
section
variable {W1 : Wd} {g : Nat → Option D} (hH : W1.H = W.H) (hF : ∀ a, Free W a → Free W1 a) (hg : ∀ i d' v, g i = some d' → Rep K W (.obj i) v → Rep K W1 d' v)
include hH hF hg
mutual
theorem Rep.sub : ∀ {d d' : D} {v : V}, Rep K W d v → D.sub g d = some d' → Rep K W1 d' v
  | .non, d', v, h, e => by cases e; exact h
  | .bl b, d', v, h, e => by cases e; exact h
  | .int b, d', v, h, e => by cases e; exact h
  | .str b, d', v, h, e => by cases e; exact h
  | .tup ds, d', v, h, e => by
    obtain ⟨a, vs, rfl, t, r⟩ := h
    simp only [D.sub, Option.map_eq_some_iff] at e
    obtain ⟨ds', e1, rfl⟩ := e
    exact ⟨a, vs, rfl, ⟨by rw [hH]; exact t.1, hF _ t.2⟩, RepL.sub r e1⟩
  | .lst ds, d', v, h, e => by
    obtain ⟨a, vs, rfl, t, r⟩ := h
    simp only [D.sub, Option.map_eq_some_iff] at e
    obtain ⟨ds', e1, rfl⟩ := e
    exact ⟨a, vs, rfl, ⟨by rw [hH]; exact t.1, hF _ t.2⟩, RepL.sub r e1⟩
  | .scr ns, d', v, h, e => by
    obtain ⟨a, rfl, t⟩ := h
    cases e
    refine ⟨a, rfl, ?_⟩
    rcases t with ⟨t, f⟩ | t
    · exact .inl ⟨by rw [hH]; exact t, hF _ f⟩
    · exact .inr t
  | .dK ds, d', v, h, e => by
    obtain ⟨a, vs, rfl, ⟨t, f⟩, r⟩ := h
    simp only [D.sub, Option.map_eq_some_iff] at e
    obtain ⟨ds', e1, rfl⟩ := e
    exact ⟨a, vs, rfl, ⟨by rw [hH]; exact t, hF _ f⟩, RepK.sub r e1⟩
  | .dT ds, d', v, h, e => by
    obtain ⟨a, vs, rfl, ⟨t, f⟩, r⟩ := h
    simp only [D.sub, Option.map_eq_some_iff] at e
    obtain ⟨ds', e1, rfl⟩ := e
    exact ⟨a, vs, rfl, ⟨by rw [hH]; exact t, hF _ f⟩, RepT.sub r e1⟩
  | .obj i, d', v, h, e => hg i d' v e h
theorem RepL.sub : ∀ {ds ds' : List D} {vs : List V}, RepL K W ds vs → D.subL g ds = some ds' → RepL K W1 ds' vs
  | [], ds', vs, h, e => by cases e; exact h
  | d :: r, ds', vs, h, e => by
    obtain ⟨v, t, rfl, h1, h2⟩ := h
    simp only [D.subL] at e
    split at e
    · rename_i d1 r1 e1 e2
      cases e
      exact ⟨v, t, rfl, Rep.sub h1 e1, RepL.sub h2 e2⟩
    · cases e
theorem RepK.sub : ∀ {ds ds' : List (Key × D)} {vs : List (Key × V)}, RepK K W ds vs → D.subK g ds = some ds' → RepK K W1 ds' vs
  | [], ds', vs, h, e => by cases e; exact h
  | (k, d) :: r, ds', vs, h, e => by
    obtain ⟨v, t, rfl, h1, h2⟩ := h
    simp only [D.subK] at e
    split at e
    · rename_i d1 r1 e1 e2
      cases e
      exact ⟨v, t, rfl, Rep.sub h1 e1, RepK.sub h2 e2⟩
    · cases e
theorem RepT.sub : ∀ {ds ds' : List (List Key × D)} {vs : List (List Key × V)}, RepT K W ds vs → D.subT g ds = some ds' → RepT K W1 ds' vs
  | [], ds', vs, h, e => by cases e; exact h
  | (k, d) :: r, ds', vs, h, e => by
    obtain ⟨v, t, rfl, h1, h2⟩ := h
    simp only [D.subT] at e
    split at e
    · rename_i d1 r1 e1 e2
      cases e
      exact ⟨v, t, rfl, Rep.sub h1 e1, RepT.sub h2 e2⟩
    · cases e
end
end
mutual
theorem Rep.closed : ∀ {d : D} {v : V}, Rep K W d v → D.sub (below W.n) d = some d
  | .non, v, h => rfl
  | .bl b, v, h => rfl
  | .int b, v, h => rfl
  | .str b, v, h => rfl
  | .scr b, v, h => rfl
  | .tup ds, v, h => by
    obtain ⟨a, vs, rfl, t, r⟩ := h
    simp only [D.sub, RepL.closed r, Option.map_some]
  | .lst ds, v, h => by
    obtain ⟨a, vs, rfl, t, r⟩ := h
    simp only [D.sub, RepL.closed r, Option.map_some]
  | .dK ds, v, h => by
    obtain ⟨a, vs, rfl, t, r⟩ := h
    simp only [D.sub, RepK.closed r, Option.map_some]
  | .dT ds, v, h => by
    obtain ⟨a, vs, rfl, t, r⟩ := h
    simp only [D.sub, RepT.closed r, Option.map_some]
  | .obj i, v, h => by
    show below W.n i = _
    unfold below
    rw [if_pos h.1]
theorem RepL.closed : ∀ {ds : List D} {vs : List V}, RepL K W ds vs → D.subL (below W.n) ds = some ds
  | [], vs, h => rfl
  | d :: r, vs, h => by
    obtain ⟨v, t, rfl, h1, h2⟩ := h
    simp only [D.subL, Rep.closed h1, RepL.closed h2]
theorem RepK.closed : ∀ {ds : List (Key × D)} {vs : List (Key × V)}, RepK K W ds vs → D.subK (below W.n) ds = some ds
  | [], vs, h => rfl
  | (k, d) :: r, vs, h => by
    obtain ⟨v, t, rfl, h1, h2⟩ := h
    simp only [D.subK, Rep.closed h1, RepK.closed h2]
theorem RepT.closed : ∀ {ds : List (List Key × D)} {vs : List (List Key × V)}, RepT K W ds vs → D.subT (below W.n) ds = some ds
  | [], vs, h => rfl
  | (k, d) :: r, vs, h => by
    obtain ⟨v, t, rfl, h1, h2⟩ := h
    simp only [D.subT, Rep.closed h1, RepT.closed h2]
end
theorem Ob.closed {a : Addr} {d : D} (h : Ob K W a d) : D.sub (below W.n) d = some d := by
  cases d with
  | lst ds => obtain ⟨vs, e, r⟩ := h; simp only [D.sub, r.closed, Option.map_some]
  | dK ds => obtain ⟨vs, e, r⟩ := h; simp only [D.sub, r.closed, Option.map_some]
  | dT ds => obtain ⟨vs, e, r⟩ := h; simp only [D.sub, r.closed, Option.map_some]
  | _ => exact h.elim
/-- as W, with the first m objects alone -/
abbrev Wd.cut (W : Wd) (m : Nat) : Wd := ⟨W.φ, m, W.H, W.pr⟩
theorem Free.cut {m : Nat} (hm : m ≤ W.n) {a : Addr} (h : Free W a) : Free (W.cut m) a := ⟨fun i hi => h.1 i (Nat.lt_of_lt_of_le hi hm), h.2⟩
theorem below_ok {m : Nat} (i : Nat) (d' : D) (v : V) (e : below m i = some d') (h : Rep K W (.obj i) v) : Rep K (W.cut m) d' v := by
  unfold below at e
  split at e
  · rename_i hi
    cases e
    exact ⟨hi, h.2⟩
  · cases e
theorem Ob.cut {m : Nat} (hm : m ≤ W.n) {a : Addr} {d : D} (h : Ob K W a d) (hc : D.sub (below m) d = some d) : Ob K (W.cut m) a d := by
  cases d with
  | lst ds =>
    obtain ⟨vs, e, r⟩ := h
    simp only [D.sub, Option.map_eq_some_iff] at hc
    obtain ⟨_, hc, e2⟩ := hc
    cases e2
    exact ⟨vs, e, RepL.sub (W := W) (W1 := W.cut m) rfl (fun _ => Free.cut hm) below_ok r hc⟩
  | dK ds =>
    obtain ⟨vs, e, r⟩ := h
    simp only [D.sub, Option.map_eq_some_iff] at hc
    obtain ⟨_, hc, e2⟩ := hc
    cases e2
    exact ⟨vs, e, RepK.sub (W := W) (W1 := W.cut m) rfl (fun _ => Free.cut hm) below_ok r hc⟩
  | dT ds =>
    obtain ⟨vs, e, r⟩ := h
    simp only [D.sub, Option.map_eq_some_iff] at hc
    obtain ⟨_, hc, e2⟩ := hc
    cases e2
    exact ⟨vs, e, RepT.sub (W := W) (W1 := W.cut m) rfl (fun _ => Free.cut hm) below_ok r hc⟩
  | _ => exact h.elim
theorem deep_ok (h : SOk K W S) {m : Nat} (hm : m ≤ W.n) : ∀ (k : Nat) (i : Nat) (d' : D) (v : V), deep m S k i = some d' → Rep K W (.obj i) v → Rep K (W.cut m) d' v
  | 0, i, d', v, e, r => below_ok (m := m) i d' v e r
  | k + 1, i, d', v, e, r => by
    by_cases hi : i < m
    · rw [deep, if_pos hi] at e
      cases e
      exact ⟨hi, r.2⟩
    · rw [deep, if_neg hi] at e
      have ih := deep_ok h hm k
      have fr : Free (W.cut m) (W.φ i) := ⟨fun j hj z => hi (by
        have hj' : j < m := hj
        rw [← h.inj j i (Nat.lt_of_lt_of_le hj' hm) r.1 z]
        exact hj'), fun z => (h.prs _ z).2 i r.1 rfl⟩
      obtain ⟨r1, rfl⟩ := r
      split at e
      · rename_i ds ed
        obtain ⟨vs, ev, rv⟩ := h.ob i _ ed
        simp only [D.sub, Option.map_eq_some_iff] at e
        obtain ⟨ds', e1, rfl⟩ := e
        exact ⟨_, vs, rfl, ⟨ev, fr⟩, RepL.sub (W := W) (W1 := W.cut m) rfl (fun _ => Free.cut hm) ih rv e1⟩
      · rename_i ds ed
        obtain ⟨vs, ev, rv⟩ := h.ob i _ ed
        simp only [D.sub, Option.map_eq_some_iff] at e
        obtain ⟨ds', e1, rfl⟩ := e
        exact ⟨_, vs, rfl, ⟨.inl ev, fr⟩, RepK.sub (W := W) (W1 := W.cut m) rfl (fun _ => Free.cut hm) ih rv e1⟩
      · rename_i ds ed
        obtain ⟨vs, ev, rv⟩ := h.ob i _ ed
        simp only [D.sub, Option.map_eq_some_iff] at e
        obtain ⟨ds', e1, rfl⟩ := e
        exact ⟨_, vs, rfl, ⟨.inl ev, fr⟩, RepT.sub (W := W) (W1 := W.cut m) rfl (fun _ => Free.cut hm) ih rv e1⟩
      · cases e
/-- frozen as the objects from m on go -/
theorem Rep.frz (h : SOk K W S) {m : Nat} (hm : m ≤ W.n) {d d' : D} {v : V} (r : Rep K W d v) (e : frz m S d = some d') : Rep K (W.cut m) d' v :=
  Rep.sub (W := W) (W1 := W.cut m) rfl (fun _ => Free.cut hm) (deep_ok h hm 3) r e
theorem okS_at : ∀ {m : Nat} {S S' : Store}, okS m S S' = true → ∀ (i : Nat) (d d' : D), S[i]? = some d → S'[i]? = some d' → d = d' ∨ D.sub (below m) d' = some d'
  | m, [], S', _, i, d, d', e, _ => by simp at e
  | m, a :: r, [], h, i, d, d', e, e' => by simp at e'
  | m, a :: r, a' :: r', h, i, d, d', e, e' => by
    simp only [okS, Bool.and_eq_true, Bool.or_eq_true, decide_eq_true_eq] at h
    cases i with
    | zero =>
      simp only [List.getElem?_cons_zero, Option.some.injEq] at e e'
      subst e e'
      exact h.1
    | succ i =>
      simp only [List.getElem?_cons_succ] at e e'
      exact okS_at h.2 i d d' e e'
/-- from W0 with the store S to W with the store S': back to as many objects -/
theorem SOk.cut {W0 : Wd} (h0 : SOk K W0 S) {S' : Store} (h : SOk K W S') (l : Le W0 W) (ok : okS W0.n S S' = true) : SOk K (W.cut W0.n) (S'.take W0.n) where
  len := by
    rw [List.length_take, h.len]
    exact Nat.min_eq_left l.le
  inj := fun i j hi hj e => h.inj i j (Nat.lt_of_lt_of_le hi l.le) (Nat.lt_of_lt_of_le hj l.le) e
  prs := fun a ha => ⟨(h.prs a ha).1, fun i hi => (h.prs a ha).2 i (Nat.lt_of_lt_of_le hi l.le)⟩
  ob := fun i d e => by
    rw [List.getElem?_take] at e
    split at e
    · rename_i hi
      refine (h.ob i d e).cut l.le ?_
      obtain ⟨d0, e0, q0⟩ := h0.at_ hi
      rcases okS_at ok i d0 d e0 e with z | z
      · rw [← z]
        exact q0.closed
      · exact z
    · cases e
theorem Le.cut0 {W0 : Wd} (l : Le W0 W) : Le W0 (W.cut W0.n) := l.cut (Nat.le_refl _) l.le
end

/-! ### the same with fewer guards -/
theorem Lw.same {W W1 : Wd} (hH : W1.H = W.H) (hn : W.n ≤ W1.n) (hφ : ∀ i, i < W.n → W1.φ i = W.φ i) (hF : ∀ a, Free W a → Free W1 a) : Lw W W1 := ⟨hn, hφ, fun a u _ h => ⟨by rw [hH]; exact h.1, hF a h.2⟩, fun a xs h => ⟨by rw [hH]; exact h.1, hF a h.2⟩, fun a xs h => ⟨by rw [hH]; exact h.1, hF a h.2⟩⟩
/-- a container's contents -/
def CRep (K : PySem.W.Frag) (W : Wd) : D → HO → Prop
  | .lst ds, .lst vs => RepL K W ds vs
  | .dK ds, .dK vs => RepK K W ds vs
  | .dT ds, .dT vs => RepT K W ds vs
  | _, _ => False
theorem CRep.lw {K : PySem.W.Frag} {W W1 : Wd} (l : Lw W W1) {c : D} {o : HO} (h : CRep K W c o) : CRep K W1 c o := by
  cases c <;> cases o <;> first
    | exact h.elim
    | exact RepL.lw l h
    | exact RepK.lw l h
    | exact RepT.lw l h
/-- from W a container at q has come, guarded so far -/
structure Came (K : PySem.W.Frag) (W G : Wd) (S : Store) (c : D) (q : Addr) : Prop where
  le : Le W G
  ok : SOk K G S
  gd : G.pr q
  nw : W.H q = none
  np : ¬ W.pr q
  ct : ∃ o, G.H q = some o ∧ CRep K G c o
section
variable {K : PySem.W.Frag} {W G : Wd} {S : Store} {c : D} {q : Addr}
/-- the guard goes -/
abbrev Wd.un (G W : Wd) : Wd := ⟨G.φ, G.n, G.H, W.pr⟩
theorem Le.un (l : Le W G) : Le W (G.un W) := ⟨l.le, l.agree, fun _ h => h, fun _ h => .inl h, l.keep, l.dom, l.new⟩
theorem un_free (l : Le W G) {a : Addr} (h : Free G a) : Free (G.un W) a := ⟨h.1, fun z => h.2 (l.pr1 a z)⟩
theorem SOk.un (l : Le W G) (h : SOk K G S) : SOk K (G.un W) S where
  len := h.len
  inj := h.inj
  prs := fun a z => h.prs a (l.pr1 a z)
  ob := fun i d e => Ob.lw (W := G) (W' := G.un W) (Lw.same rfl (Nat.le_refl _) (fun _ _ => rfl) fun _ => un_free l) rfl (h.ob i d e)
theorem Came.frz (h : Came K W G S c q) : Rep K (G.un W) c (.ref q) := by
  obtain ⟨o, ho, hc⟩ := h.ct
  have fr : Free (G.un W) q := ⟨(h.ok.prs q h.gd).2, h.np⟩
  have hc' : CRep K (G.un W) c o := CRep.lw (W := G) (W1 := G.un W) (Lw.same rfl (Nat.le_refl _) (fun _ _ => rfl) fun _ => un_free h.le) hc
  cases c <;> cases o <;> first
    | exact hc'.elim
    | exact ⟨q, _, rfl, ⟨ho, fr⟩, hc'⟩
    | exact ⟨q, _, rfl, ⟨.inl ho, fr⟩, hc'⟩
/-- it becomes an object of the store -/
abbrev Wd.box (G W : Wd) (q : Addr) : Wd := ⟨fun i => if i = G.n then q else G.φ i, G.n + 1, G.H, W.pr⟩
theorem box_lt {i : Nat} (h : i < G.n) : (G.box W q).φ i = G.φ i := by
  show (if i = G.n then q else G.φ i) = G.φ i
  rw [if_neg (by omega)]
theorem box_at : (G.box W q).φ G.n = q := by
  show (if G.n = G.n then q else _) = q
  rw [if_pos rfl]
theorem Came.le_box (h : Came K W G S c q) : Le W (G.box W q) where
  le := Nat.le_succ_of_le h.le.le
  agree := fun i hi => (box_lt (Nat.lt_of_lt_of_le hi h.le.le)).trans (h.le.agree i hi)
  pr1 := fun _ z => z
  pr2 := fun _ z => .inl z
  keep := h.le.keep
  dom := h.le.dom
  new := fun i h1 h2 => by
    have h2' : i < G.n + 1 := h2
    by_cases e : i = G.n
    · rw [e, box_at]
      exact h.nw
    · rw [box_lt (by omega)]
      exact h.le.new i h1 (by omega)
theorem Came.box_free (h : Came K W G S c q) {a : Addr} (f : Free G a) : Free (G.box W q) a := ⟨fun i hi e => by
  have hi' : i < G.n + 1 := hi
  by_cases z : i = G.n
  · rw [z, box_at] at e
    rw [← e] at f
    exact f.2 h.gd
  · rw [box_lt (by omega)] at e
    exact f.1 i (by omega) e, fun z => f.2 (h.le.pr1 a z)⟩
theorem Came.box (h : Came K W G S c q) : SOk K (G.box W q) (S ++ [c]) where
  len := by
    rw [List.length_append, h.ok.len]
    rfl
  inj := fun i j hi hj e => by
    have hi' : i < G.n + 1 := hi
    have hj' : j < G.n + 1 := hj
    by_cases ei : i = G.n
    · by_cases ej : j = G.n
      · omega
      · rw [ei, box_at, box_lt (by omega)] at e
        exact absurd e.symm ((h.ok.prs q h.gd).2 j (by omega))
    · by_cases ej : j = G.n
      · rw [ej, box_at, box_lt (by omega)] at e
        exact absurd e ((h.ok.prs q h.gd).2 i (by omega))
      · rw [box_lt (by omega), box_lt (by omega)] at e
        exact h.ok.inj i j (by omega) (by omega) e
  prs := fun a ha => ⟨(h.ok.prs a (h.le.pr1 a ha)).1, fun i hi e => by
    have hi' : i < G.n + 1 := hi
    by_cases z : i = G.n
    · rw [z, box_at] at e
      exact h.np (by rw [e]; exact ha)
    · rw [box_lt (by omega)] at e
      exact (h.ok.prs a (h.le.pr1 a ha)).2 i (by omega) e⟩
  ob := fun i d e => by
    by_cases hi : i < S.length
    · rw [List.getElem?_append_left hi] at e
      have hw : i < G.n := by rw [← h.ok.len]; exact hi
      rw [box_lt hw]
      exact Ob.lw (W := G) (W' := G.box W q) (Lw.same rfl (Nat.le_succ _) (fun _ => box_lt) fun _ => h.box_free) rfl (h.ok.ob i d e)
    · have hl := (List.getElem?_eq_some_iff.mp e).1
      rw [List.length_append, List.length_singleton] at hl
      have ei : i = S.length := by omega
      subst ei
      rw [List.getElem?_append_right (Nat.le_refl _), Nat.sub_self] at e
      cases e
      rw [h.ok.len, box_at]
      obtain ⟨o, ho, hc⟩ := h.ct
      have hc' : CRep K (G.box W q) c o := CRep.lw (W := G) (W1 := G.box W q) (Lw.same rfl (Nat.le_succ _) (fun _ => box_lt) fun _ => h.box_free) hc
      cases c <;> cases o <;> first
        | exact hc'.elim
        | exact ⟨_, ho, hc'⟩
/-- something just laid at q -/
theorem Came.laid (s : SOk K W S) (hq : W.H q = none) {o : HO} (hc : CRep K W c o) : Came K W ⟨W.φ, W.n, upd W.H q o, fun a => W.pr a ∨ a = q⟩ S c q := by
  have l : Le W ⟨W.φ, W.n, upd W.H q o, fun a => W.pr a ∨ a = q⟩ := ⟨Nat.le_refl _, fun _ _ => rfl, fun _ h => .inl h, fun a h => by
    rcases h with h | h
    · exact .inl h
    · rw [h]; exact .inr hq, (Le.laid hq).keep, (Le.laid (o := o) hq).dom, (Le.laid (o := o) hq).new⟩
  have fr : ∀ {a : Addr}, Free W a → W.H a ≠ none → Free ⟨W.φ, W.n, upd W.H q o, fun a => W.pr a ∨ a = q⟩ a := fun f hd => f.le l hd
  refine ⟨l, ⟨s.len, s.inj, fun a z => ?_, fun i d e => (s.ob i d e).le l (upd_ne fun z => s.here (s.lt e) (by rw [z]; exact hq))⟩, .inr rfl, hq, fun z => s.prn z hq, o, upd_same, ?_⟩
  · rcases z with z | z
    · refine ⟨?_, (s.prs a z).2⟩
      obtain ⟨⟨u, eu, c⟩, _⟩ := s.prs a z
      exact ⟨u, by
        show upd W.H q o a = _
        rw [upd_ne (ne_of_none eu hq)]
        exact eu, c⟩
    · rw [z]
      refine ⟨⟨o, upd_same, ?_⟩, fun i hi e => s.here hi (by rw [e]; exact hq)⟩
      cases c <;> cases o <;> first
        | exact hc.elim
        | exact True.intro
  · cases c <;> cases o <;> first
      | exact hc.elim
      | exact RepL.le l hc
      | exact RepK.le l hc
      | exact RepT.le l hc
end
/-- what is guarded is filled on -/
abbrev Wd.fill (W : Wd) (q : Addr) (o : HO) : Wd := ⟨W.φ, W.n, upd W.H q o, W.pr⟩
section
variable {K : PySem.W.Frag} {W W0 : Wd} {S : Store} {q : Addr} {o : HO}
theorem Lw.fill (hq : W.pr q) : Lw W (W.fill q o) := ⟨Nat.le_refl _, fun _ _ => rfl, fun a u _ h => by
  have na : a ≠ q := fun z => h.2.2 (by rw [z]; exact hq)
  refine ⟨?_, h.2⟩
  show Rd (upd W.H q o) a u
  unfold Rd
  rw [upd_ne na]
  exact h.1, fun a xs h => by
  have na : a ≠ q := fun z => h.2.2 (by rw [z]; exact hq)
  refine ⟨?_, h.2⟩
  show upd W.H q o a = _
  rw [upd_ne na]
  exact h.1, fun a xs h => by
  have na : a ≠ q := fun z => h.2.2 (by rw [z]; exact hq)
  refine ⟨?_, h.2⟩
  show upd W.H q o a = _
  rw [upd_ne na]
  exact h.1⟩
theorem SOk.fill (hq : W.pr q) (ho : Ctn o) (h : SOk K W S) : SOk K (W.fill q o) S where
  len := h.len
  inj := h.inj
  prs := fun a z => ⟨by
    by_cases e : a = q
    · exact ⟨o, by rw [e]; exact upd_same, ho⟩
    · obtain ⟨⟨u, eu, c⟩, _⟩ := h.prs a z
      exact ⟨u, by
        show upd W.H q o a = _
        rw [upd_ne e]
        exact eu, c⟩, (h.prs a z).2⟩
  ob := fun i d e => (h.ob i d e).lw (Lw.fill hq) (upd_ne fun z => (h.prs q hq).2 i (h.lt e) z)
theorem Le.fill (l : Le W0 W) (hq : W0.H q = none) : Le W0 (W.fill q o) := ⟨l.le, l.agree, l.pr1, l.pr2, fun a u ha hf => by
  have na : a ≠ q := ne_of_none ha hq
  show upd W.H q o a = _ ∨ _ ∧ ∃ ob, upd W.H q o a = _
  rw [upd_ne na]
  exact l.keep a u ha hf, fun a ha => by
  show upd W.H q o a ≠ none
  by_cases z : a = q
  · rw [z, upd_same]; simp
  · rw [upd_ne z]; exact l.dom a ha, l.new⟩
end
end Hx
set_option Elab.async false
set_option linter.all false
set_option maxRecDepth 100000
/-! HxSem: what a Python text does as a plain function of the slots and of the store; the readings that it gives. -/
namespace Hx
open PySem PySem.Spec PyProof.Rows L2

inductive R (α : Type) where
  | ok (a : α) (S : Store)
  | exc (x : D) (S : Store)
  | stuck
def R.bind {α β : Type} (r : R α) (k : α → Store → R β) : R β := match r with
  | .ok a S => k a S
  | .exc x S => .exc x S
  | .stuck => .stuck
@[simp] theorem R.bind_ok {α β : Type} (a : α) (S : Store) (k : α → Store → R β) : (R.ok a S).bind k = k a S := rfl
@[simp] theorem R.bind_exc {α β : Type} (x : D) (S : Store) (k : α → Store → R β) : (R.exc x S : R α).bind k = .exc x S := rfl
@[simp] theorem R.bind_stuck {α β : Type} (k : α → Store → R β) : (R.stuck : R α).bind k = .stuck := rfl
abbrev Ev := List (Option D)
/-- an expression, a test, arguments -/
abbrev SE := Ev → Store → R D
abbrev SB := Ev → Store → R Bool
abbrev SA := Ev → Store → R (List D)
inductive SR where
  | nx (e : Ev) (S : Store)
  | bk (e : Ev) (S : Store)
  | ct (e : Ev) (S : Store)
  | rt (d : D) (S : Store)
  | exc (x : D) (S : Store)
  | stuck
abbrev SS := Ev → Store → SR
abbrev SF := List D → Store → R D
/-- what a target makes of a value -/
abbrev SG := D → Ev → Option Ev

/-! ### the ends -/
section
variable {α β τ υ : Type} (ρ : Wd → α → τ → Prop) (K : PySem.W.Frag) (tg : Addr) (E : XK)
def Exc (W : Wd) (x : D) (S : Store) : Prop := ∀ (W' : Wd) (a : Addr) (v : V), Le W W' → SOk K W' S → W'.H a = some (.xd [("number", v)]) → Rep K W' x v → E (.ref tg) (some a) W'.H
def Post (W : Wd) (r : R α) (Q : τ → Hp → Prop) : Prop := match r with
  | .ok a S => ∀ W' t, Le W W' → SOk K W' S → ρ W' a t → Q t W'.H
  | .exc x S => Exc K tg E W x S
  | .stuck => False
end
section
variable {α β τ υ : Type} {ρ : Wd → α → τ → Prop} {ρ' : Wd → β → υ → Prop} {K : PySem.W.Frag} {tg : Addr} {E : XK} {W W1 : Wd}
theorem Exc.le {x : D} {S : Store} (h : Exc K tg E W x S) (l : Le W W1) : Exc K tg E W1 x S := fun W' a v l' => h W' a v (l.trans l')
theorem Post.le {r : R α} {Q : τ → Hp → Prop} (h : Post ρ K tg E W r Q) (l : Le W W1) : Post ρ K tg E W1 r Q := by
  cases r with
  | ok a S => exact fun W' t l' => h W' t (l.trans l')
  | exc x S => exact Exc.le h l
  | stuck => exact h
theorem Post.imp {r : R α} {Q Q' : τ → Hp → Prop} (h : Post ρ K tg E W r Q) (i : ∀ t H, Q t H → Q' t H) : Post ρ K tg E W r Q' := by
  cases r with
  | ok a S => exact fun W' t l s q => i _ _ (h W' t l s q)
  | exc x S => exact h
  | stuck => exact h
/-- one behind the other -/
theorem Post.bind {r : R α} {k : α → Store → R β} {Q : υ → Hp → Prop} (h : Post ρ' K tg E W (r.bind k) Q) :
    Post ρ K tg E W r fun t H1 => ∃ W1 a S1, W1.H = H1 ∧ Le W W1 ∧ SOk K W1 S1 ∧ ρ W1 a t ∧ Post ρ' K tg E W1 (k a S1) Q := by
  cases r with
  | ok a S => exact fun W' t l s q => ⟨W', a, S, rfl, l, s, q, Post.le (show Post ρ' K tg E W (k a S) Q from h) l⟩
  | exc x S => exact h
  | stuck => exact h
end

/-! ### slots -/
def EvR (K : PySem.W.Frag) (W : Wd) (env : Ev) (σ : L2.St) : Prop := env.length = σ.length ∧ ∀ (i : Nat) (d : D), env[i]? = some (some d) → ∃ v : V, σ[i]? = some (some v) ∧ Rep K W d v
section
variable {K : PySem.W.Frag} {W W1 : Wd} {env : Ev} {σ : L2.St}
theorem EvR.le (h : EvR K W env σ) (l : Le W W1) : EvR K W1 env σ := ⟨h.1, fun i d e => by
  obtain ⟨v, h1, h2⟩ := h.2 i d e
  exact ⟨v, h1, h2.le l⟩⟩
theorem EvR.set (h : EvR K W env σ) {i : Nat} {d : D} {v : V} (r : Rep K W d v) : EvR K W (env.set i (some d)) (σ.set i (some v)) := by
  refine ⟨by rw [List.length_set, List.length_set]; exact h.1, fun j u e => ?_⟩
  by_cases z : j = i
  · subst z
    have hl := (List.getElem?_eq_some_iff.mp e).1
    rw [List.length_set] at hl
    rw [List.getElem?_set_self hl] at e
    cases e
    exact ⟨v, List.getElem?_set_self (by rw [← h.1]; exact hl), r⟩
  · rw [List.getElem?_set_ne (fun q => z q.symm)] at e
    obtain ⟨w, h1, h2⟩ := h.2 j u e
    exact ⟨w, by rw [List.getElem?_set_ne (fun q => z q.symm)]; exact h1, h2⟩
theorem EvR.wipe (h : EvR K W env σ) (i : Nat) : EvR K W (env.set i none) (σ.set i none) := by
  refine ⟨by rw [List.length_set, List.length_set]; exact h.1, fun j u e => ?_⟩
  by_cases z : j = i
  · subst z
    have hl := (List.getElem?_eq_some_iff.mp e).1
    rw [List.length_set] at hl
    rw [List.getElem?_set_self hl] at e
    cases e
  · rw [List.getElem?_set_ne (fun q => z q.symm)] at e
    obtain ⟨w, h1, h2⟩ := h.2 j u e
    exact ⟨w, by rw [List.getElem?_set_ne (fun q => z q.symm)]; exact h1, h2⟩
/-- slots forgotten, or changed into what stands for them too -/
theorem EvR.map (h : EvR K W env σ) {f : D → Option D} (hf : ∀ d d' v, f d = some d' → Rep K W d v → Rep K W1 d' v) : EvR K W1 (env.map (·.bind f)) σ := by
  refine ⟨by rw [List.length_map]; exact h.1, fun j u e => ?_⟩
  rw [List.getElem?_map] at e
  cases q : env[j]? with
  | none => rw [q] at e; cases e
  | some o =>
    cases o with
    | none => rw [q] at e; cases e
    | some d =>
      rw [q] at e
      have e' : f d = some u := Option.some.inj e
      obtain ⟨v, h1, h2⟩ := h.2 j d q
      exact ⟨v, h1, hf d u v e' h2⟩
end

/-! ### readings -/
section
variable (K : PySem.W.Frag) (tg : Addr) (E : XK)
abbrev ρV : Wd → D → V → Prop := fun W d v => Rep K W d v
abbrev ρB : Wd → Bool → Bool → Prop := fun _ b c => c = b
abbrev ρL : Wd → List D → List V → Prop := fun W ds vs => RepL K W ds vs
def tE (f : SE) : TE := fun σ H Q => ∃ W S env, W.H = H ∧ SOk K W S ∧ EvR K W env σ ∧ Post (ρV K) K tg E W (f env S) Q
def tT (f : SB) : TT := fun σ H Q => ∃ W S env, W.H = H ∧ SOk K W S ∧ EvR K W env σ ∧ Post ρB K tg E W (f env S) Q
def tA (f : SA) : TA := fun σ H Q => ∃ W S env, W.H = H ∧ SOk K W S ∧ EvR K W env σ ∧ Post (ρL K) K tg E W (f env S) Q
def PostS (W : Wd) (r : SR) (D : Ends) : Prop := match r with
  | .nx env S => ∀ W' σ', Le W W' → SOk K W' S → EvR K W' env σ' → D.nx σ' W'.H
  | .bk env S => ∀ W' σ', Le W W' → SOk K W' S → EvR K W' env σ' → D.bk σ' W'.H
  | .ct env S => ∀ W' σ', Le W W' → SOk K W' S → EvR K W' env σ' → D.ct σ' W'.H
  | .rt d S => ∀ W' v, Le W W' → SOk K W' S → Rep K W' d v → D.rt v W'.H
  | .exc x S => Exc K tg E W x S
  | .stuck => False
def tS (f : SS) : TS := fun D σ H => ∃ W S env, W.H = H ∧ SOk K W S ∧ EvR K W env σ ∧ PostS K tg E W (f env S) D
def tG (g : SG) : TG := fun v σ H Q => ∃ W S env d, W.H = H ∧ SOk K W S ∧ EvR K W env σ ∧ Rep K W d v ∧ ∃ env', g d env = some env' ∧ ∀ W' σ', Le W W' → SOk K W' S → EvR K W' env' σ' → Q σ' W'.H
def spF (F : SF) : Sp := fun vs H Q E => ∃ W S ds, W.H = H ∧ SOk K W S ∧ RepL K W ds vs ∧ Post (ρV K) K tg E W (F ds S) Q
end
section
variable {K : PySem.W.Frag} {tg : Addr} {E : XK} {W W1 : Wd}
theorem PostS.le {r : SR} {D : Ends} (h : PostS K tg E W r D) (l : Le W W1) : PostS K tg E W1 r D := by
  cases r with
  | nx e S => exact fun W' σ' l' => h W' σ' (l.trans l')
  | bk e S => exact fun W' σ' l' => h W' σ' (l.trans l')
  | ct e S => exact fun W' σ' l' => h W' σ' (l.trans l')
  | rt d S => exact fun W' σ' l' => h W' σ' (l.trans l')
  | exc x S => exact Exc.le h l
  | stuck => exact h
theorem PostS.imp {r : SR} {D D' : Ends} (h : PostS K tg E W r D) (h1 : ∀ σ H, D.nx σ H → D'.nx σ H) (h2 : ∀ v H, D.rt v H → D'.rt v H) (h3 : ∀ σ H, D.bk σ H → D'.bk σ H) (h4 : ∀ σ H, D.ct σ H → D'.ct σ H) : PostS K tg E W r D' := by
  cases r with
  | nx e S => exact fun W' σ' l s q => h1 _ _ (h W' σ' l s q)
  | bk e S => exact fun W' σ' l s q => h3 _ _ (h W' σ' l s q)
  | ct e S => exact fun W' σ' l s q => h4 _ _ (h W' σ' l s q)
  | rt d S => exact fun W' σ' l s q => h2 _ _ (h W' σ' l s q)
  | exc x S => exact h
  | stuck => exact h
end
section
variable {X : Cx}
theorem pe_weak {e : Expr} {t t' : TE} (h : PE X e t) (i : ∀ σ H Q, t' σ H Q → t σ H Q) : PE X e t' := ⟨fun pins s σ H Q I q => h.run pins s σ H Q I (i σ H Q q)⟩
theorem pt_weak {e : Expr} {t t' : TT} (h : PT X e t) (i : ∀ σ H Q, t' σ H Q → t σ H Q) : PT X e t' := ⟨fun pins s σ H Q I q => h.run pins s σ H Q I (i σ H Q q)⟩
theorem pw_weak {e : Expr} {t t' : TT} (h : PW X e t) (i : ∀ σ H Q, t' σ H Q → t σ H Q) : PW X e t' := ⟨fun whole pins s σ H Q I q => h.run whole pins s σ H Q I (i σ H Q q)⟩
theorem pa_weak {es : List Expr} {t t' : TA} (h : PA X es t) (i : ∀ σ H Q, t' σ H Q → t σ H Q) : PA X es t' := ⟨fun pos pins s σ H Q I q => h.run pos pins s σ H Q I (i σ H Q q)⟩
theorem ps_weak {st : Stmt} {t t' : TS} (h : PS X st t) (i : ∀ D σ H, t' D σ H → t D σ H) : PS X st t' := ⟨fun pins s σ H D I q => h.run pins s σ H D I (i D σ H q)⟩
theorem pss_weak {st : List Stmt} {t t' : TS} (h : PSs X st t) (i : ∀ D σ H, t' D σ H → t D σ H) : PSs X st t' := ⟨fun pins s σ H D I q => h.run pins s σ H D I (i D σ H q)⟩
end
/-- a reading from what stands in W -/
theorem tE.mk {K : PySem.W.Frag} {tg : Addr} {E : XK} {W : Wd} {S : Store} {env : Ev} {σ : L2.St} {f : SE} {Q : VK} (s : SOk K W S) (e : EvR K W env σ) (p : Post (ρV K) K tg E W (f env S) Q) : tE K tg E f σ W.H Q := ⟨W, S, env, rfl, s, e, p⟩
theorem tT.mk {K : PySem.W.Frag} {tg : Addr} {E : XK} {W : Wd} {S : Store} {env : Ev} {σ : L2.St} {f : SB} {Q : Bool → Hp → Prop} (s : SOk K W S) (e : EvR K W env σ) (p : Post ρB K tg E W (f env S) Q) : tT K tg E f σ W.H Q := ⟨W, S, env, rfl, s, e, p⟩
theorem tA.mk {K : PySem.W.Frag} {tg : Addr} {E : XK} {W : Wd} {S : Store} {env : Ev} {σ : L2.St} {f : SA} {Q : List V → Hp → Prop} (s : SOk K W S) (e : EvR K W env σ) (p : Post (ρL K) K tg E W (f env S) Q) : tA K tg E f σ W.H Q := ⟨W, S, env, rfl, s, e, p⟩
theorem tS.mk {K : PySem.W.Frag} {tg : Addr} {E : XK} {W : Wd} {S : Store} {env : Ev} {σ : L2.St} {f : SS} {D : Ends} (s : SOk K W S) (e : EvR K W env σ) (p : PostS K tg E W (f env S) D) : tS K tg E f D σ W.H := ⟨W, S, env, rfl, s, e, p⟩

/-! ### expressions: the frame -/
abbrev JE (X : Cx) (tg : Addr) (E : XK) (e : Expr) (f : SE) : Prop := PE X e (tE X.K tg E f)
abbrev JT (X : Cx) (tg : Addr) (E : XK) (e : Expr) (f : SB) : Prop := PT X e (tT X.K tg E f)
abbrev JW (X : Cx) (tg : Addr) (E : XK) (e : Expr) (f : SB) : Prop := PW X e (tT X.K tg E f)
abbrev JA (X : Cx) (tg : Addr) (E : XK) (es : List Expr) (f : SA) : Prop := PA X es (tA X.K tg E f)
abbrev JS (X : Cx) (tg : Addr) (E : XK) (st : Stmt) (f : SS) : Prop := PS X st (tS X.K tg E f)
abbrev JB (X : Cx) (tg : Addr) (E : XK) (st : List Stmt) (f : SS) : Prop := PSs X st (tS X.K tg E f)
abbrev JG (X : Cx) (e : Expr) (g : SG) : Prop := PG X e (tG X.K g)

section
variable {X : Cx} {tg : Addr} {E : XK} {a b e : Expr} {es : List Expr} {f g : SE} {fa : SA} {c : SB} {pos : Pos}
def eVar (i : Nat) : SE := fun env S => match env[i]? with
  | some (some d) => .ok d S
  | _ => .stuck
theorem j_var {i : Nat} {x : Str} (h : PE X (.Name x pos) (tVar i)) : JE X tg E (.Name x pos) (eVar i) :=
  pe_weak h fun σ H Q ⟨W, S, env, hW, s, ev, p⟩ => by
    subst hW
    unfold eVar at p
    split at p
    · rename_i d hd
      obtain ⟨v, h1, h2⟩ := ev.2 i d hd
      exact ⟨v, h1, p W v (Le.refl W) s h2⟩
    · exact p.elim
def eC (d : D) : SE := fun _ S => .ok d S
theorem j_const {d : D} {v : V} (h : PE X e (tC v)) (r : ∀ W, Rep X.K W d v) : JE X tg E e (eC d) :=
  pe_weak h fun σ H Q ⟨W, S, env, hW, s, ev, p⟩ => by
    subst hW
    exact p W v (Le.refl W) s (r W)
theorem j_int {i : Int} {j} : JE X tg E (.Constant (.int i) j pos) (eC (.int i)) := j_const pe_int fun _ => rfl
theorem j_bl {i : Bool} {j} : JE X tg E (.Constant (.bool i) j pos) (eC (.bl i)) := j_const pe_bl fun _ => rfl
theorem j_non {j} : JE X tg E (.Constant .none j pos) (eC .non) := j_const pe_non fun _ => rfl
theorem j_str {x : Str} {j} : JE X tg E (.Constant (.str x) j pos) (eC (.str x)) := j_const pe_str fun _ => rfl

def e2 (k : D → D → Store → R D) (f g : SE) : SE := fun env S => (f env S).bind fun x S1 => (g env S1).bind fun y S2 => k x y S2
/-- what an operation on values must do -/
def Op2 (X : Cx) (tg : Addr) (E : XK) (r : R2) (k : D → D → Store → R D) : Prop := ∀ (W : Wd) (S : Store) (dx dy : D) (x y : V) (Q : VK), SOk X.K W S → Rep X.K W dx x → Rep X.K W dy y → Post (ρV X.K) X.K tg E W (k dx dy S) Q → r x y W.H Q
theorem tOp_of {r : R2} {k : D → D → Store → R D} (hk : Op2 X tg E r k) (σ : L2.St) (H : Hp) (Q : VK) : tE X.K tg E (e2 k f g) σ H Q → tOp r (tE X.K tg E f) (tE X.K tg E g) σ H Q := fun ⟨W, S, env, hW, s, ev, p⟩ => by
  subst hW
  refine tE.mk s ev ((Post.bind p).imp ?_)
  rintro x H1 ⟨W1, d1, S1, rfl, l1, s1, r1, p1⟩
  refine tE.mk s1 (ev.le l1) ((Post.bind p1).imp ?_)
  rintro y H2 ⟨W2, d2, S2, rfl, l2, s2, r2, p2⟩
  exact hk W2 S2 d1 d2 x y Q s2 (r1.le l2) r2 p2
theorem j_bin {op : Operator} {r : R2} {k : D → D → Store → R D} (ho : OpR X (binaryOp op) r) (hk : Op2 X tg E r k) (ha : JE X tg E a f) (hb : JE X tg E b g) : JE X tg E (.BinOp a op b pos) (e2 k f g) :=
  pe_weak (pe_op ho ha hb) (tOp_of hk)
theorem j_cmp {op : CmpOp} {r : R2} {k : D → D → Store → R D} (ho : OpR X (compareOp op) r) (hm : behindInMarks op b = false) (hk : Op2 X tg E r k) (ha : JE X tg E a f) (hb : JE X tg E b g) : JE X tg E (.Compare a [op] [b] pos) (e2 k f g) :=
  pe_weak (pe_cmpR ho ha hb hm) (tOp_of hk)
theorem j_ix {r : R2} {k : D → D → Store → R D} (ho : IxR X r) (hk : Op2 X tg E r k) (hs : PlainIx b) (ha : JE X tg E a f) (hb : JE X tg E b g) : JE X tg E (.Subscript a b pos) (e2 k f g) :=
  pe_weak (pe_ix ho ha hb hs) (tOp_of hk)
def e1 (k : D → Store → R D) (f : SE) : SE := fun env S => (f env S).bind k
def Op1 (X : Cx) (tg : Addr) (E : XK) (r : V → Hp → VK → Prop) (k : D → Store → R D) : Prop := ∀ (W : Wd) (S : Store) (dx : D) (x : V) (Q : VK), SOk X.K W S → Rep X.K W dx x → Post (ρV X.K) X.K tg E W (k dx S) Q → r x W.H Q
theorem tUn_of {r : V → Hp → VK → Prop} {k : D → Store → R D} (hk : Op1 X tg E r k) (σ : L2.St) (H : Hp) (Q : VK) : tE X.K tg E (e1 k f) σ H Q → tUn r (tE X.K tg E f) σ H Q := fun ⟨W, S, env, hW, s, ev, p⟩ => by
  subst hW
  refine tE.mk s ev ((Post.bind p).imp ?_)
  rintro x H1 ⟨W1, d1, S1, rfl, l1, s1, r1, p1⟩
  exact hk W1 S1 d1 x Q s1 r1 p1
theorem j_un {op : UnaryOp} {r : V → Hp → VK → Prop} {k : D → Store → R D} (ho : UnR X (unaryOp op) r) (hk : Op1 X tg E r k) (ha : JE X tg E a f) : JE X tg E (.UnaryOp op a pos) (e1 k f) :=
  pe_weak (pe_un ho ha) (tUn_of hk)

/-! arguments -/
def aNil : SA := fun _ S => .ok [] S
def aCons (f : SE) (g : SA) : SA := fun env S => (f env S).bind fun x S1 => (g env S1).bind fun xs S2 => .ok (x :: xs) S2
theorem ja_nil : JA X tg E [] aNil := pa_weak pa_nil fun σ H Q ⟨W, S, env, hW, s, ev, p⟩ => by
  subst hW
  exact p W [] (Le.refl W) s rfl
theorem ja_cons (ha : JE X tg E e f) (hr : JA X tg E es fa) (hs : starEach (e :: es) X.env = (false, eval e X.env) :: starEach es X.env := by rfl) : JA X tg E (e :: es) (aCons f fa) :=
  pa_weak (pa_cons ha hr hs) fun σ H Q ⟨W, S, env, hW, s, ev, p⟩ => by
    subst hW
    refine tE.mk s ev ((Post.bind p).imp ?_)
    rintro x H1 ⟨W1, d1, S1, rfl, l1, s1, r1, p1⟩
    refine tA.mk s1 (ev.le l1) ((Post.bind (ρ := ρL X.K) p1).imp ?_)
    rintro xs H2 ⟨W2, ds, S2, rfl, l2, s2, r2, p2⟩
    exact p2 W2 (x :: xs) (Le.refl W2) s2 ⟨x, xs, rfl, r1.le l2, r2⟩
def eCB (k : List D → Store → R D) (fa : SA) : SE := fun env S => (fa env S).bind k
def OpL (X : Cx) (tg : Addr) (E : XK) (r : List V → Hp → VK → Prop) (k : List D → Store → R D) : Prop := ∀ (W : Wd) (S : Store) (ds : List D) (vs : List V) (Q : VK), SOk X.K W S → RepL X.K W ds vs → Post (ρV X.K) X.K tg E W (k ds S) Q → r vs W.H Q
theorem tCB_of {r : List V → Hp → VK → Prop} {k : List D → Store → R D} (hk : OpL X tg E r k) (σ : L2.St) (H : Hp) (Q : VK) : tE X.K tg E (eCB k fa) σ H Q → tCB r (tA X.K tg E fa) σ H Q := fun ⟨W, S, env, hW, s, ev, p⟩ => by
  subst hW
  refine tA.mk s ev ((Post.bind (ρ := ρL X.K) p).imp ?_)
  rintro x H1 ⟨W1, d1, S1, rfl, l1, s1, r1, p1⟩
  exact hk W1 S1 d1 x Q s1 r1 p1
def eTup (fa : SA) : SE := fun env S => (fa env S).bind fun ds S1 => if ds.length ≤ sizeLine then .ok (.tup ds) S1 else .stuck
theorem RepL.length {K : PySem.W.Frag} {W : Wd} : ∀ {ds : List D} {vs : List V}, RepL K W ds vs → vs.length = ds.length
  | [], vs, h => by
    have e : vs = [] := h
    rw [e]
    rfl
  | _ :: _, _, h => by
    obtain ⟨v, r, rfl, h1, h2⟩ := h
    rw [List.length_cons, List.length_cons, RepL.length h2]
/-- a new tuple, a new list -/
theorem Post.newTup {K : PySem.W.Frag} {W : Wd} {S : Store} {ds : List D} {vs : List V} {Q : VK} (s : SOk K W S) (r : RepL K W ds vs) (p : Post (ρV K) K tg E W (.ok (.tup ds) S) Q) {q : Addr} (hq : W.H q = none) : Q (.ref q) (upd W.H q (.tup vs)) :=
  p ⟨W.φ, W.n, upd W.H q (.tup vs), W.pr⟩ (.ref q) (Le.laid hq) (s.laid hq) ⟨q, vs, rfl, ⟨upd_same, s.free hq⟩, r.le (Le.laid hq)⟩
theorem Post.newLst {K : PySem.W.Frag} {W : Wd} {S : Store} {ds : List D} {vs : List V} {Q : VK} (s : SOk K W S) (r : RepL K W ds vs) (p : Post (ρV K) K tg E W (.ok (.lst ds) S) Q) {q : Addr} (hq : W.H q = none) : Q (.ref q) (upd W.H q (.lst vs)) :=
  p ⟨W.φ, W.n, upd W.H q (.lst vs), W.pr⟩ (.ref q) (Le.laid hq) (s.laid hq) ⟨q, vs, rfl, ⟨upd_same, s.free hq⟩, r.le (Le.laid hq)⟩
theorem j_tup {x1} (h : JA X tg E es fa) : JE X tg E (.Tuple es x1 pos) (eTup fa) :=
  pe_weak (pe_tup h) fun σ H Q ⟨W, S, env, hW, s, ev, p⟩ => by
    subst hW
    refine tA.mk s ev ((Post.bind (ρ := ρL X.K) p).imp ?_)
    rintro vs H1 ⟨W1, ds, S1, rfl, l1, s1, r1, p1⟩
    by_cases hl : ds.length ≤ sizeLine
    · rw [if_pos hl] at p1
      exact ⟨by rw [r1.length]; exact hl, fun q hq => Post.newTup s1 r1 p1 hq⟩
    · rw [if_neg hl] at p1
      exact p1.elim

/-! tests -/
def bVal (f : SE) : SB := fun env S => (f env S).bind fun d S1 => match d with
  | .bl b => .ok b S1
  | _ => .stuck
theorem jt_val (h : JE X tg E e f) (he : ∀ whole, isTrue e X.env whole = (do let v ← whole; standAt e.pos; holding [v] (truthy v)) := by intro _; rfl) : JT X tg E e (bVal f) :=
  pt_weak (pt_val h he) fun σ H Q ⟨W, S, env, hW, s, ev, p⟩ => by
    subst hW
    refine tE.mk s ev ((Post.bind p).imp ?_)
    rintro x H1 ⟨W1, d1, S1, rfl, l1, s1, r1, p1⟩
    cases d1 with
    | bl b => exact ⟨b, r1, p1 W1 b (Le.refl W1) s1 rfl⟩
    | _ => exact p1.elim
def bAnd (f g : SB) : SB := fun env S => (f env S).bind fun b S1 => if b = true then g env S1 else .ok false S1
def bOr (f g : SB) : SB := fun env S => (f env S).bind fun b S1 => if b = true then .ok true S1 else g env S1
def bNot (f : SB) : SB := fun env S => (f env S).bind fun b S1 => .ok (!b) S1
theorem jw_and1 (ha : JT X tg E a c) : JW X tg E (.BoolOp .And [a] pos) c := pw_and1 ha
theorem jw_or1 (ha : JT X tg E a c) : JW X tg E (.BoolOp .Or [a] pos) c := pw_or1 ha
theorem jw_and {c' : SB} {rest : List Expr} (ha : JT X tg E a c) (hb : JW X tg E (.BoolOp .And (b :: rest) pos) c') : JW X tg E (.BoolOp .And (a :: b :: rest) pos) (bAnd c c') :=
  pw_weak (pw_and ha hb) fun σ H Q ⟨W, S, env, hW, s, ev, p⟩ => by
    subst hW
    refine tT.mk s ev ((Post.bind (ρ := ρB) p).imp ?_)
    rintro x H1 ⟨W1, d1, S1, rfl, l1, s1, r1, p1⟩
    subst r1
    cases x with
    | true => exact tT.mk s1 (ev.le l1) p1
    | false => exact p1 W1 false (Le.refl W1) s1 rfl
theorem jw_or {c' : SB} {rest : List Expr} (ha : JT X tg E a c) (hb : JW X tg E (.BoolOp .Or (b :: rest) pos) c') : JW X tg E (.BoolOp .Or (a :: b :: rest) pos) (bOr c c') :=
  pw_weak (pw_or ha hb) fun σ H Q ⟨W, S, env, hW, s, ev, p⟩ => by
    subst hW
    refine tT.mk s ev ((Post.bind (ρ := ρB) p).imp ?_)
    rintro x H1 ⟨W1, d1, S1, rfl, l1, s1, r1, p1⟩
    subst r1
    cases x with
    | true => exact p1 W1 true (Le.refl W1) s1 rfl
    | false => exact tT.mk s1 (ev.le l1) p1
theorem jt_not (ha : JT X tg E a c) : JT X tg E (.UnaryOp .Not a pos) (bNot c) :=
  pt_weak (pt_not ha) fun σ H Q ⟨W, S, env, hW, s, ev, p⟩ => by
    subst hW
    refine tT.mk s ev ((Post.bind (ρ := ρB) p).imp ?_)
    rintro x H1 ⟨W1, d1, S1, rfl, l1, s1, r1, p1⟩
    subst r1
    exact p1 W1 (!x) (Le.refl W1) s1 rfl
def eIf (c : SB) (f g : SE) : SE := fun env S => (c env S).bind fun b S1 => if b = true then f env S1 else g env S1
theorem j_if {ct : Expr} (hc : JT X tg E ct c) (ha : JE X tg E a f) (hb : JE X tg E b g) : JE X tg E (.IfExp ct a b pos) (eIf c f g) :=
  pe_weak (pe_ifExp hc ha hb) fun σ H Q ⟨W, S, env, hW, s, ev, p⟩ => by
    subst hW
    refine tT.mk s ev ((Post.bind (ρ := ρB) p).imp ?_)
    rintro x H1 ⟨W1, d1, S1, rfl, l1, s1, r1, p1⟩
    subst r1
    cases x with
    | true => exact tE.mk s1 (ev.le l1) p1
    | false => exact tE.mk s1 (ev.le l1) p1
end
end Hx
set_option Elab.async false
set_option linter.all false
set_option maxRecDepth 100000
/-! HxStm: statements, targets, loops, comprehensions, calls and defs as plain functions. -/
namespace Hx
open PySem PySem.Spec PyProof.Rows L2

def R.bindS {α : Type} (r : R α) (k : α → Store → SR) : SR := match r with
  | .ok a S => k a S
  | .exc x S => .exc x S
  | .stuck => .stuck
@[simp] theorem R.bindS_ok {α : Type} (a : α) (S : Store) (k : α → Store → SR) : (R.ok a S).bindS k = k a S := rfl
@[simp] theorem R.bindS_exc {α : Type} (x : D) (S : Store) (k : α → Store → SR) : (R.exc x S : R α).bindS k = .exc x S := rfl
@[simp] theorem R.bindS_stuck {α : Type} (k : α → Store → SR) : (R.stuck : R α).bindS k = .stuck := rfl
section
variable {α τ : Type} {ρ : Wd → α → τ → Prop} {K : PySem.W.Frag} {tg : Addr} {E : XK} {W : Wd}
theorem Post.bindS {r : R α} {k : α → Store → SR} {D : Ends} (h : PostS K tg E W (r.bindS k) D) :
    Post ρ K tg E W r fun t H1 => ∃ W1 a S1, W1.H = H1 ∧ Le W W1 ∧ SOk K W1 S1 ∧ ρ W1 a t ∧ PostS K tg E W1 (k a S1) D := by
  cases r with
  | ok a S => exact fun W' t l s q => ⟨W', a, S, rfl, l, s, q, PostS.le (show PostS K tg E W (k a S) D from h) l⟩
  | exc x S => exact h
  | stuck => exact h
end

/-! ### targets -/
def gN (i : Nat) : SG := fun d env => some (env.set i (some d))
def gAll : List SG → List D → Ev → Option Ev
  | [], [], env => some env
  | g :: gs, d :: ds, env => (g d env).bind (gAll gs ds)
  | _, _, _ => none
def gT (gs : List SG) : SG := fun d env => match d with
  | .tup ds => gAll gs ds env
  | _ => none
section
variable {X : Cx} {pos : Pos}
theorem jg_name {i : Nat} {x : Str} (hN : X.N.Nodup) (hi : X.N[i]? = some x) (hx : Loc X.env.scope x) (hf : X.fn x = true ∨ X.env.scope.names.lookup x = some .local := by first | exact .inl rfl | exact .inr rfl | assumption) : JG X (.Name x pos) (gN i) := by
  have h := pg_name (pos := pos) hN hi hx hf
  refine ⟨fun pins s σ H v u Q I r q => h.run pins s σ H v u Q I r ?_⟩
  obtain ⟨W, S, env, d, rfl, hs, ev, hr, env', e, q⟩ := q
  cases e
  exact q W _ (Le.refl W) hs (ev.set hr)
def tGs (K : PySem.W.Frag) (gs : List SG) : TGs := fun vs σ H Q => ∃ W S env ds, W.H = H ∧ SOk K W S ∧ EvR K W env σ ∧ RepL K W ds vs ∧ ∃ env', gAll gs ds env = some env' ∧ ∀ W' σ', Le W W' → SOk K W' S → EvR K W' env' σ' → Q σ' W'.H
theorem jgs_nil : PGs X [] (tGs X.K []) := by
  refine ⟨fun pins s σ H vs us Q I r q => (pgs_nil (X := X)).run pins s σ H vs us Q I r ?_⟩
  obtain ⟨W, S, env, ds, rfl, hs, ev, hr, env', e, q⟩ := q
  cases ds with
  | nil =>
    cases e
    exact ⟨hr, q W σ (Le.refl W) hs ev⟩
  | cons d r => cases e
theorem jgs_cons {e : Expr} {es : List Expr} {g : SG} {gs : List SG} (h : PGs X (e :: es) (gCons (tG X.K g) (tGs X.K gs))) : PGs X (e :: es) (tGs X.K (g :: gs)) := by
  refine ⟨fun pins s σ H vs us Q I r q => h.run pins s σ H vs us Q I r ?_⟩
  obtain ⟨W, S, env, ds, rfl, hs, ev, hr, env', e, q⟩ := q
  cases ds with
  | nil => cases e
  | cons d rs =>
    obtain ⟨v, t, rfl, r1, r2⟩ := hr
    obtain ⟨env1, e1, e2⟩ := Option.bind_eq_some_iff.mp e
    refine ⟨v, t, rfl, W, S, env, d, rfl, hs, ev, r1, env1, e1, fun W1 σ1 l1 s1 ev1 => ?_⟩
    exact ⟨W1, S, env1, rs, rfl, s1, ev1, r2.le l1, env', e2, fun W2 σ2 l2 s2 ev2 => q W2 σ2 (l1.trans l2) s2 ev2⟩
theorem gAll_len : ∀ {gs : List SG} {ds : List D} {env env' : Ev}, gAll gs ds env = some env' → ds.length = gs.length
  | [], [], _, _, _ => rfl
  | [], _ :: _, _, _, h => by cases h
  | _ :: _, [], _, _, h => by cases h
  | g :: gs, d :: ds, _, _, h => by
    obtain ⟨_, _, e⟩ := Option.bind_eq_some_iff.mp h
    rw [List.length_cons, List.length_cons, gAll_len e]
theorem jg_tup {es : List Expr} {k n : Nat} {gs : List SG} (h' : PG X (.Tuple es k pos) (gTup X.K n (tGs X.K gs))) (hn : n = gs.length := by rfl) : JG X (.Tuple es k pos) (gT gs) := by
  refine ⟨fun pins s σ H v u Q I r q => h'.run pins s σ H v u Q I r ?_⟩
  subst hn
  obtain ⟨W, S, env, d, rfl, hs, ev, hr, env', e, q⟩ := q
  cases d with
  | tup ds =>
    obtain ⟨a, vs, rfl, t, rl⟩ := hr
    exact ⟨a, vs, rfl, t.sq, by rw [rl.length]; exact gAll_len e, W, S, env, ds, rfl, hs, ev, rl, env', e, q⟩
  | _ => cases e
end

/-! ### plain statements -/
def sNil : SS := fun env S => .nx env S
def sSeq (f g : SS) : SS := fun env S => match f env S with
  | .nx env S => g env S
  | r => r
def sAsg (f : SE) (g : SG) : SS := fun env S => (f env S).bindS fun d S1 => match g d env with
  | some env' => .nx env' S1
  | none => .stuck
def sSet (i : Nat) (f : SE) : SS := sAsg f (gN i)
def sExpr (f : SE) : SS := fun env S => (f env S).bindS fun _ S1 => .nx env S1
def sRet (f : SE) : SS := fun env S => (f env S).bindS fun d S1 => .rt d S1
def sRetN : SS := fun _ S => .rt .non S
def sIf (c : SB) (f g : SS) : SS := fun env S => (c env S).bindS fun b S1 => if b = true then f env S1 else g env S1
def sPass : SS := sNil
def sBreak : SS := fun env S => .bk env S
def sCont : SS := fun env S => .ct env S
section
variable {X : Cx} {tg : Addr} {E : XK} {e ce : Expr} {st : Stmt} {rest sa sb : List Stmt} {f : SE} {u v : SS} {c : SB} {g : SG} {pos : Pos}
theorem jb_nil : JB X tg E [] sNil := pss_weak pss_nil fun D σ H ⟨W, S, env, hW, s, ev, p⟩ => by
  subst hW
  exact p W σ (Le.refl W) s ev
theorem jb_one (h : JS X tg E st u) : JB X tg E [st] u := pss_one h
theorem jb_cons (h1 : JS X tg E st u) (h2 : JB X tg E rest v) : JB X tg E (st :: rest) (sSeq u v) :=
  pss_weak (pss_cons h1 h2) fun D σ H ⟨W, S, env, hW, s, ev, p⟩ => by
    subst hW
    refine tS.mk s ev ?_
    unfold sSeq at p
    cases q : u env S with
    | nx env1 S1 =>
      rw [q] at p
      exact fun W' σ' l' s' ev' => tS.mk s' ev' (p.le l')
    | bk env1 S1 => rw [q] at p; exact p
    | ct env1 S1 => rw [q] at p; exact p
    | rt d S1 => rw [q] at p; exact p
    | exc x S1 => rw [q] at p; exact p
    | stuck => rw [q] at p; exact p
theorem js_pass : JS X tg E (.Pass pos) sPass := ps_weak ps_pass fun D σ H ⟨W, S, env, hW, s, ev, p⟩ => by
  subst hW
  exact p W σ (Le.refl W) s ev
theorem js_break : JS X tg E (.Break pos) sBreak := ps_weak ps_break fun D σ H ⟨W, S, env, hW, s, ev, p⟩ => by
  subst hW
  exact p W σ (Le.refl W) s ev
theorem js_continue : JS X tg E (.Continue pos) sCont := ps_weak ps_continue fun D σ H ⟨W, S, env, hW, s, ev, p⟩ => by
  subst hW
  exact p W σ (Le.refl W) s ev
theorem tAsg_of {tgt : TG} (hg : ∀ v σ H Q, tG X.K g v σ H Q → tgt v σ H Q) (D : Ends) (σ : L2.St) (H : Hp) : tS X.K tg E (sAsg f g) D σ H → tAsg (tE X.K tg E f) tgt D σ H := fun ⟨W, S, env, hW, s, ev, p⟩ => by
  subst hW
  refine tE.mk s ev ((Post.bindS (ρ := ρV X.K) p).imp ?_)
  rintro x H1 ⟨W1, d1, S1, rfl, l1, s1, r1, p1⟩
  refine hg _ _ _ _ ?_
  cases q : g d1 env with
  | none => rw [q] at p1; exact p1.elim
  | some env' =>
    rw [q] at p1
    exact ⟨W1, S1, env, d1, rfl, s1, ev.le l1, r1, env', q, fun W' σ' l' s' e' => p1 W' σ' l' s' e'⟩
theorem js_asg (h : PS X st (tAsg (tE X.K tg E f) (tG X.K g))) : JS X tg E st (sAsg f g) :=
  ps_weak h (tAsg_of fun _ _ _ _ h => h)
theorem js_set {i : Nat} (h : PS X st (tAsg (tE X.K tg E f) (gName i))) : JS X tg E st (sSet i f) :=
  ps_weak h (tAsg_of fun v σ H Q h => by
    obtain ⟨W, S, env, d, rfl, hs, ev, hr, env', e, q⟩ := h
    cases e
    exact q W _ (Le.refl W) hs (ev.set hr))
theorem js_expr (he : JE X tg E e f) (hs : swapsWith e none pos.line X.env = pure false := by rfl) : JS X tg E (.Expr e pos) (sExpr f) :=
  ps_weak (ps_expr he hs) fun D σ H ⟨W, S, env, hW, s, ev, p⟩ => by
    subst hW
    refine tE.mk s ev ((Post.bindS (ρ := ρV X.K) p).imp ?_)
    rintro x H1 ⟨W1, d1, S1, rfl, l1, s1, r1, p1⟩
    exact p1 W1 σ (Le.refl W1) s1 (ev.le l1)
theorem js_ret (he : JE X tg E e f) : JS X tg E (.Return (some e) pos) (sRet f) :=
  ps_weak (ps_ret he) fun D σ H ⟨W, S, env, hW, s, ev, p⟩ => by
    subst hW
    refine tE.mk s ev ((Post.bindS (ρ := ρV X.K) p).imp ?_)
    rintro x H1 ⟨W1, d1, S1, rfl, l1, s1, r1, p1⟩
    exact p1 W1 x (Le.refl W1) s1 r1
theorem js_retN : JS X tg E (.Return none pos) sRetN := ps_weak ps_retN fun D σ H ⟨W, S, env, hW, s, ev, p⟩ => by
  subst hW
  exact p W .non (Le.refl W) s rfl
theorem js_if (hc : JT X tg E ce c) (ha : JB X tg E sa u) (hb : JB X tg E sb v) : JS X tg E (.If ce sa sb pos) (sIf c u v) :=
  ps_weak (ps_if hc ha hb) fun D σ H ⟨W, S, env, hW, s, ev, p⟩ => by
    subst hW
    refine tT.mk s ev ((Post.bindS (ρ := ρB) p).imp ?_)
    rintro x H1 ⟨W1, d1, S1, rfl, l1, s1, r1, p1⟩
    subst r1
    cases x with
    | true => exact tS.mk s1 (ev.le l1) p1
    | false => exact tS.mk s1 (ev.le l1) p1
def sPar (i j : Nat) (fa : SA) : SS := fun env S => (fa env S).bindS fun ds S1 => match ds with
  | [x, y] => .nx ((env.set i (some x)).set j (some y)) S1
  | _ => .stuck
theorem tPar_of {i j : Nat} {fa : SA} (D : Ends) (σ : L2.St) (H : Hp) : tS X.K tg E (sPar i j fa) D σ H → tPar i j (tA X.K tg E fa) D σ H := fun ⟨W, S, env, hW, s, ev, p⟩ => by
  subst hW
  refine tA.mk s ev ((Post.bindS (ρ := ρL X.K) p).imp ?_)
  rintro vs H1 ⟨W1, ds, S1, rfl, l1, s1, r1, p1⟩
  match ds, r1, p1 with
  | [x, y], r1, p1 =>
    obtain ⟨v, t, rfl, ra, w', t', rfl, rb, rc⟩ := r1
    obtain rfl : t' = [] := rc
    exact ⟨v, w', rfl, p1 W1 _ (Le.refl W1) s1 (((ev.le l1).set ra).set rb)⟩
  | [], _, p1 => exact p1.elim
  | [_], _, p1 => exact p1.elim
  | _ :: _ :: _ :: _, _, p1 => exact p1.elim
def sPar3 (i j l : Nat) (fa : SA) : SS := fun env S => (fa env S).bindS fun ds S1 => match ds with
  | [x, y, z] => .nx (((env.set i (some x)).set j (some y)).set l (some z)) S1
  | _ => .stuck
theorem tPar3_of {i j l : Nat} {fa : SA} (D : Ends) (σ : L2.St) (H : Hp) : tS X.K tg E (sPar3 i j l fa) D σ H → tPar3 i j l (tA X.K tg E fa) D σ H := fun ⟨W, S, env, hW, s, ev, p⟩ => by
  subst hW
  refine tA.mk s ev ((Post.bindS (ρ := ρL X.K) p).imp ?_)
  rintro vs H1 ⟨W1, ds, S1, rfl, l1, s1, r1, p1⟩
  match ds, r1, p1 with
  | [x, y, z], r1, p1 =>
    obtain ⟨v, t, rfl, ra, w', t', rfl, rb, z', t'', rfl, rc, rd⟩ := r1
    obtain rfl : t'' = [] := rd
    exact ⟨v, w', z', rfl, p1 W1 _ (Le.refl W1) s1 ((((ev.le l1).set ra).set rb).set rc)⟩
  | [], _, p1 => exact p1.elim
  | [_], _, p1 => exact p1.elim
  | [_, _], _, p1 => exact p1.elim
  | _ :: _ :: _ :: _ :: _, _, p1 => exact p1.elim
/-- x += e of two ints -/
def sAug (i : Nat) (k : D → D → Store → R D) (f : SE) : SS := fun env S => match env[i]? with
  | some (some x) => (f env S).bindS fun y S1 => (k x y S1).bindS fun z S2 => .nx (env.set i (some z)) S2
  | _ => .stuck
theorem js_aug {i : Nat} {x : Str} {op : Operator} {ti : TIp} {k : D → D → Store → R D} {pos' : Pos} (hk : Op2 X tg E ti k) (h : PS X (.AugAssign (.Name x pos') op e pos) (tAug i (tE X.K tg E f) ti)) : JS X tg E (.AugAssign (.Name x pos') op e pos) (sAug i k f) :=
  ps_weak h fun D σ H ⟨W, S, env, hW, s, ev, p⟩ => by
    subst hW
    unfold sAug at p
    split at p
    · rename_i x hx
      obtain ⟨v, h1, h2⟩ := ev.2 i x hx
      refine ⟨v, h1, tE.mk s ev ((Post.bindS (ρ := ρV X.K) p).imp ?_)⟩
      rintro y H1 ⟨W1, d1, S1, rfl, l1, s1, r1, p1⟩
      refine hk W1 S1 x d1 v y _ s1 (h2.le l1) r1 ((Post.bindS (ρ := ρV X.K) p1).imp ?_)
      rintro z H2 ⟨W2, d2, S2, rfl, l2, s2, r2, p2⟩
      exact p2 W2 _ (Le.refl W2) s2 ((ev.le (l1.trans l2)).set r2)
    · exact p.elim
end

/-! ### what a block has made goes -/
def cutR (S0 : Store) (r : R D) : R D := match r with
  | .ok d S => if okS S0.length S0 S = true then (match frz S0.length S d with
    | some d' => .ok d' (S.take S0.length)
    | none => .stuck) else .stuck
  | .exc d S => if okS S0.length S0 S = true then (match frz S0.length S d with
    | some d' => .exc d' (S.take S0.length)
    | none => .stuck) else .stuck
  | .stuck => .stuck
def cutE (m : Nat) (S : Store) (env : Ev) : Ev := env.map fun o => o.bind (frz m S)
def cutS (S0 : Store) (r : SR) : SR := match r with
  | .nx env S => if okS S0.length S0 S = true then .nx (cutE S0.length S env) (S.take S0.length) else .stuck
  | .bk env S => if okS S0.length S0 S = true then .bk (cutE S0.length S env) (S.take S0.length) else .stuck
  | .ct env S => if okS S0.length S0 S = true then .ct (cutE S0.length S env) (S.take S0.length) else .stuck
  | .rt d S => if okS S0.length S0 S = true then (match frz S0.length S d with
    | some d' => .rt d' (S.take S0.length)
    | none => .stuck) else .stuck
  | .exc d S => if okS S0.length S0 S = true then (match frz S0.length S d with
    | some d' => .exc d' (S.take S0.length)
    | none => .stuck) else .stuck
  | .stuck => .stuck
def sScope (f : SS) : SS := fun env S => cutS S (f env S)
def cutF (F : SF) : SF := fun ds S => cutR S (F ds S)
section
variable {K : PySem.W.Frag} {tg : Addr} {E : XK} {W : Wd} {S0 : Store}
theorem Exc.uncut (s0 : SOk K W S0) {x x' : D} {S : Store} (ok : okS S0.length S0 S = true) (e : frz S0.length S x = some x') (h : Exc K tg E W x' (S.take S0.length)) : Exc K tg E W x S := fun W' a v l s ha r => by
  rw [s0.len] at ok e h
  exact h (W'.cut W.n) a v l.cut0 (s0.cut s l ok) ha (r.frz s l.le e)
theorem Post.uncut (s0 : SOk K W S0) {r : R D} {Q : VK} (h : Post (ρV K) K tg E W (cutR S0 r) Q) : Post (ρV K) K tg E W r Q := by
  cases r with
  | ok d S =>
    unfold cutR at h
    dsimp only at h
    split at h
    · rename_i ok
      split at h
      · rename_i d' e
        intro W' v l s r
        rw [s0.len] at ok e h
        exact h (W'.cut W.n) v l.cut0 (s0.cut s l ok) (Rep.frz s l.le r e)
      · exact h.elim
    · exact h.elim
  | exc d S =>
    unfold cutR at h
    dsimp only at h
    split at h
    · rename_i ok
      split at h
      · rename_i d' e
        exact Exc.uncut s0 ok e h
      · exact h.elim
    · exact h.elim
  | stuck => exact h
theorem EvR.cut {W' : Wd} {S : Store} {env : Ev} {σ : L2.St} (s : SOk K W' S) {m : Nat} (hm : m ≤ W'.n) (ev : EvR K W' env σ) : EvR K (W'.cut m) (cutE m S env) σ := ev.map fun d d' v e r => r.frz s hm e
theorem PostS.uncut (s0 : SOk K W S0) {r : SR} {D : Ends} (h : PostS K tg E W (cutS S0 r) D) : PostS K tg E W r D := by
  cases r with
  | nx env S =>
    unfold cutS at h
    dsimp only at h
    split at h
    · rename_i ok
      intro W' σ' l s ev
      rw [s0.len] at ok h
      exact h (W'.cut W.n) σ' l.cut0 (s0.cut s l ok) (ev.cut s l.le)
    · exact h.elim
  | bk env S =>
    unfold cutS at h
    dsimp only at h
    split at h
    · rename_i ok
      intro W' σ' l s ev
      rw [s0.len] at ok h
      exact h (W'.cut W.n) σ' l.cut0 (s0.cut s l ok) (ev.cut s l.le)
    · exact h.elim
  | ct env S =>
    unfold cutS at h
    dsimp only at h
    split at h
    · rename_i ok
      intro W' σ' l s ev
      rw [s0.len] at ok h
      exact h (W'.cut W.n) σ' l.cut0 (s0.cut s l ok) (ev.cut s l.le)
    · exact h.elim
  | rt d S =>
    unfold cutS at h
    dsimp only at h
    split at h
    · rename_i ok
      split at h
      · rename_i d' e
        intro W' v l s r
        rw [s0.len] at ok e h
        exact h (W'.cut W.n) v l.cut0 (s0.cut s l ok) (Rep.frz s l.le r e)
      · exact h.elim
    · exact h.elim
  | exc d S =>
    unfold cutS at h
    dsimp only at h
    split at h
    · rename_i ok
      split at h
      · rename_i d' e
        exact Exc.uncut s0 ok e h
      · exact h.elim
    · exact h.elim
  | stuck => exact h
theorem jb_scope {X : Cx} {sts : List Stmt} {u : SS} (h : JB X tg E sts u) : JB X tg E sts (sScope u) :=
  pss_weak h fun D σ H ⟨W, S, env, hW, s, ev, p⟩ => ⟨W, S, env, hW, s, ev, PostS.uncut s p⟩
/-- the objects from the one in a slot on are changed no more: they are told as what they hold -/
def sThaw (i : Nat) (f : SS) : SS := fun env S => match env[i]? with
  | some (some (.obj m)) => if okS m (S.take m) S = true then f (cutE m S env) (S.take m) else .stuck
  | _ => .stuck
def sThawFrom (m : Store → Nat) (f : SS) : SS := fun env S => if m S ≤ S.length ∧ okS (m S) (S.take (m S)) S = true then f (cutE (m S) S env) (S.take (m S)) else .stuck
end

/-! ### while -/
def whileL (c : SB) (u : SS) : Nat → SS
  | 0 => fun _ _ => .stuck
  | k + 1 => fun env S => (c env S).bindS fun b S1 => if b = true then (match u env S1 with
      | .nx e S2 => whileL c u k e S2
      | .ct e S2 => whileL c u k e S2
      | .bk e S2 => .nx e S2
      | r => r) else .nx env S1
def turns : Nat := 1000000
def sWhile (c : SB) (u : SS) : SS := whileL c u turns
section
variable {X : Cx} {tg : Addr} {E : XK} {ce : Expr} {body : List Stmt} {u : SS} {c : SB} {pos : Pos}
theorem js_whileN (n : Nat) (hp : PassesOwn (model X.prog X.w) X.A X.env X.xe) (hc : JT X tg E ce c) (hb : JB X tg E body u) : JS X tg E (.While ce body [] pos) (whileL c u n) :=
  ps_weak (ps_while hp hc hb) fun D σ H ⟨W, S, env, hW, s, ev, p⟩ => by
    subst hW
    refine ⟨fun m σ H => ∃ W S env, W.H = H ∧ SOk X.K W S ∧ EvR X.K W env σ ∧ PostS X.K tg E W (whileL c u m env S) D, ⟨n, W, S, env, rfl, s, ev, p⟩, ?_⟩
    rintro m σ H ⟨W, S, env, rfl, s, ev, p⟩
    cases m with
    | zero => exact p.elim
    | succ m =>
      unfold whileL at p
      refine tT.mk s ev ((Post.bindS (ρ := ρB) p).imp ?_)
      rintro b H1 ⟨W1, b1, S1, rfl, l1, s1, r1, p1⟩
      subst r1
      cases b with
      | false => exact p1 W1 σ (Le.refl W1) s1 (ev.le l1)
      | true =>
        rw [if_pos rfl] at p1
        rw [if_pos rfl]
        refine ⟨fun σ H => ∃ W S env, W.H = H ∧ SOk X.K W S ∧ EvR X.K W env σ ∧ PostS X.K tg E W (whileL c u m env S) D, fun σ' H' h => ⟨m, Nat.lt_succ_self m, h⟩, ?_⟩
        refine tS.mk s1 (ev.le l1) ?_
        cases q : u env S1 with
        | nx e S2 =>
          rw [q] at p1
          exact fun W' σ' l' s' ev' => ⟨W', S2, e, rfl, s', ev', p1.le l'⟩
        | ct e S2 =>
          rw [q] at p1
          exact fun W' σ' l' s' ev' => ⟨W', S2, e, rfl, s', ev', p1.le l'⟩
        | bk e S2 => rw [q] at p1; exact p1
        | rt d S2 => rw [q] at p1; exact p1
        | exc d S2 => rw [q] at p1; exact p1
        | stuck => rw [q] at p1; exact p1
theorem js_while (hp : PassesOwn (model X.prog X.w) X.A X.env X.xe) (hc : JT X tg E ce c) (hb : JB X tg E body u) : JS X tg E (.While ce body [] pos) (sWhile c u) := js_whileN turns hp hc hb
end

/-! ### for -/
/-- what is walked from W on: these items, one by one -/
def SrcOk (K : PySem.W.Frag) (J : It) (W : Wd) (ds : List D) : Prop := ∀ (W' : Wd) (S : Store), Le W W' → SOk K W' S → ∀ i : Nat, (ds.length ≤ i → J.stop i W'.H) ∧
  ∀ d, ds[i]? = some d → J.go i W'.H ∧ ∀ x H', J.yld i W'.H x H' → ∃ W'', W''.H = H' ∧ Le W' W'' ∧ SOk K W'' S ∧ Rep K W'' d x
theorem SrcOk.le {K : PySem.W.Frag} {J : It} {W W1 : Wd} {ds : List D} (h : SrcOk K J W ds) (l : Le W W1) : SrcOk K J W1 ds := fun W' S l' => h W' S (l.trans l')
def tI (K : PySem.W.Frag) (tg : Addr) (E : XK) (f : SA) : TI := fun σ H Rr => ∃ W S env, W.H = H ∧ SOk K W S ∧ EvR K W env σ ∧ Post (fun W ds J => SrcOk K J W ds) K tg E W (f env S) Rr
abbrev JI (X : Cx) (tg : Addr) (E : XK) (t e : Expr) (f : SA) : Prop := PI X t e (tI X.K tg E f)
def forL (g : SG) (u : SS) : List D → SS
  | [] => fun env S => .nx env S
  | d :: r => fun env S => match g d env with
    | none => .stuck
    | some env1 => match u env1 S with
      | .nx e S2 => forL g u r e S2
      | .ct e S2 => forL g u r e S2
      | .bk e S2 => .nx e S2
      | z => z
def sFor (f : SA) (g : SG) (u : SS) : SS := fun env S => (f env S).bindS fun ds S1 => forL g u ds env S1
section
variable {X : Cx} {tg : Addr} {E : XK} {te ie : Expr} {body : List Stmt} {u : SS} {f : SA} {g : SG} {pos : Pos}
theorem tFor_of (D : Ends) (σ : L2.St) (H : Hp) : tS X.K tg E (sFor f g u) D σ H → tFor (tI X.K tg E f) (tG X.K g) (tS X.K tg E u) D σ H := fun ⟨W, S, env, hW, s, ev, p⟩ => by
  subst hW
  refine ⟨W, S, env, rfl, s, ev, (Post.bindS (ρ := fun W ds J => SrcOk X.K J W ds) p).imp ?_⟩
  rintro J H1 ⟨W1, ds, S1, rfl, l1, s1, r1, p1⟩
  refine ⟨fun i m σ H => m = ds.length - i ∧ i ≤ ds.length ∧ ∃ W S env, W.H = H ∧ Le W1 W ∧ SOk X.K W S ∧ EvR X.K W env σ ∧ PostS X.K tg E W (forL g u (ds.drop i) env S) D, ⟨ds.length, rfl, Nat.zero_le _, W1, S1, env, rfl, Le.refl _, s1, ev.le l1, p1⟩, ?_⟩
  rintro i m σ H ⟨rfl, hi, W2, S2, env2, rfl, l2, s2, ev2, p2⟩
  obtain ⟨h1, h2⟩ := r1 W2 S2 l2 s2 i
  by_cases hlt : i < ds.length
  · obtain ⟨go, yl⟩ := h2 ds[i] (List.getElem?_eq_getElem hlt)
    refine .inr ⟨go, fun σ H => ∃ W S env, W.H = H ∧ Le W1 W ∧ SOk X.K W S ∧ EvR X.K W env σ ∧ PostS X.K tg E W (forL g u (ds.drop (i + 1)) env S) D, fun σ' H' q => ⟨ds.length - (i + 1), by omega, rfl, hlt, q⟩, fun x H' y => ?_⟩
    obtain ⟨W3, rfl, l3, s3, r3⟩ := yl x H' y
    rw [List.drop_eq_getElem_cons hlt] at p2
    unfold forL at p2
    cases q : g ds[i] env2 with
    | none => rw [q] at p2; exact p2.elim
    | some env3 =>
      rw [q] at p2
      dsimp only at p2
      refine ⟨W3, S2, env2, ds[i], rfl, s3, ev2.le l3, r3, env3, q, fun W4 σ4 l4 s4 ev4 => ?_⟩
      refine tS.mk s4 ev4 ?_
      have l24 : Le W2 W4 := l3.trans l4
      cases z : u env3 S2 with
      | nx e S5 =>
        rw [z] at p2
        exact fun W' σ' l' s' ev' => ⟨W', S5, e, rfl, (l2.trans l24).trans l', s', ev', p2.le (l24.trans l')⟩
      | ct e S5 =>
        rw [z] at p2
        exact fun W' σ' l' s' ev' => ⟨W', S5, e, rfl, (l2.trans l24).trans l', s', ev', p2.le (l24.trans l')⟩
      | bk e S5 => rw [z] at p2; exact PostS.le (tg := tg) (E := E) (r := .bk e S5) (D := { D with bk := D.nx }) p2 l24
      | rt d S5 => rw [z] at p2; exact PostS.le (tg := tg) (E := E) (r := .rt d S5) (D := D) p2 l24
      | exc d S5 => rw [z] at p2; exact Exc.le p2 l24
      | stuck => rw [z] at p2; exact p2.elim
  · have e : i = ds.length := by omega
    subst e
    rw [List.drop_length] at p2
    exact .inl ⟨h1 (Nat.le_refl _), p2 W2 σ (Le.refl _) s2 ev2⟩
theorem js_for {st : Stmt} (h : PS X st (tFor (tI X.K tg E f) (tG X.K g) (tS X.K tg E u))) : JS X tg E st (sFor f g u) :=
  ps_weak h tFor_of
end
end Hx
set_option Elab.async false
set_option linter.all false
set_option maxRecDepth 100000
/-! HxFun: new containers (told as they are, or as objects of the store), comprehensions, calls, defs. -/
namespace Hx
open PySem PySem.Spec PyProof.Rows L2

/-- how a new container is handed on: FZ as it is, for good; BX as an object of the store -/
def FZ (c : D) (S : Store) : R D := .ok c S
def BX (c : D) (S : Store) : R D := .ok (.obj S.length) (S ++ [c])
class Fin' (fin : D → Store → R D) : Prop where
  out : ∀ {K : PySem.W.Frag} {tg : Addr} {E : XK} {W G : Wd} {S : Store} {c : D} {q : Addr} {Q : VK}, Came K W G S c q → Post (ρV K) K tg E W (fin c S) Q → Q (.ref q) G.H
instance : Fin' FZ := ⟨fun {K tg E W G S c q Q} h p => p (G.un W) (.ref q) (Le.un h.le) (SOk.un h.le h.ok) h.frz⟩
instance : Fin' BX := ⟨fun {K tg E W G S c q Q} h p => p (G.box W q) (.ref q) h.le_box h.box ⟨by
  show S.length < G.n + 1
  rw [h.ok.len]
  exact Nat.lt_succ_self _, by
  rw [h.ok.len, box_at]⟩⟩
theorem Fin'.laid {fin : D → Store → R D} [Fin' fin] {K : PySem.W.Frag} {tg : Addr} {E : XK} {W : Wd} {S : Store} {c : D} {o : HO} {q : Addr} {Q : VK} (s : SOk K W S) (hc : CRep K W c o) (p : Post (ρV K) K tg E W (fin c S) Q) (hq : W.H q = none) : Q (.ref q) (upd W.H q o) :=
  Fin'.out (Came.laid s hq hc) p

section
variable {X : Cx} {tg : Addr} {E : XK} {e : Expr} {es : List Expr} {f : SE} {fa : SA} {pos : Pos} {fin : D → Store → R D}
def eLst (fin : D → Store → R D) (fa : SA) : SE := fun env S => (fa env S).bind fun ds S1 => if ds.length ≤ sizeLine then fin (.lst ds) S1 else .stuck
theorem j_lst [Fin' fin] (h : PE X e (tLst (tA X.K tg E fa))) : JE X tg E e (eLst fin fa) :=
  pe_weak h fun σ H Q ⟨W, S, env, hW, s, ev, p⟩ => by
    subst hW
    refine tA.mk s ev ((Post.bind (ρ := ρL X.K) p).imp ?_)
    rintro vs H1 ⟨W1, ds, S1, rfl, l1, s1, r1, p1⟩
    by_cases hl : ds.length ≤ sizeLine
    · rw [if_pos hl] at p1
      exact ⟨by rw [r1.length]; exact hl, fun q hq => Fin'.laid (c := .lst ds) (o := .lst vs) s1 r1 p1 hq⟩
    · rw [if_neg hl] at p1
      exact p1.elim

/-! ### comprehensions -/
def wipeE (env : Ev) : List Nat → Ev
  | [] => env
  | v :: vs => (wipeE env vs).set v none
theorem EvR.wipes {K : PySem.W.Frag} {W : Wd} {env : Ev} {σ : L2.St} (h : EvR K W env σ) : ∀ vs : List Nat, EvR K W (wipeE env vs) (L2.wipe σ vs)
  | [] => h
  | v :: vs => (EvR.wipes h vs).wipe v
def noX {α : Type} (r : R α) : R α := match r with
  | .exc _ _ => .stuck
  | r => r
def lcL (g : SG) (c : SB) (el : SE) (env : Ev) : List D → List D → Store → R (List D)
  | [], acc, S => .ok acc S
  | d :: r, acc, S => match g d env with
    | none => .stuck
    | some env1 => (noX (c env1 S)).bind fun b S1 => if b = true then (noX (el env1 S1)).bind fun y S2 => if acc.length < sizeLine then lcL g c el env r (acc ++ [y]) S2 else .stuck else lcL g c el env r acc S1
def eLc (fin : D → Store → R D) (src : SA) (g : SG) (vs : List Nat) (c : SB) (el : SE) : SE := fun env S => (src env S).bind fun ds S1 => (lcL g c el (wipeE env vs) ds [] S1).bind fun out S2 => fin (.lst out) S2
theorem Post.noX {α β τ υ : Type} {ρ : Wd → α → τ → Prop} {ρ' : Wd → β → υ → Prop} {K : PySem.W.Frag} {tg : Addr} {E : XK} {W : Wd} {r : R α} {k : α → Store → R β} {Q : υ → Hp → Prop} (h : Post ρ' K tg E W ((noX r).bind k) Q) :
    ∃ a S, r = .ok a S ∧ Post ρ' K tg E W (k a S) Q := by
  cases r with
  | ok a S => exact ⟨a, S, rfl, h⟩
  | exc x S => exact h.elim
  | stuck => exact h.elim
theorem RepL.snoc {K : PySem.W.Frag} {W : Wd} {d : D} {v : V} (r : Rep K W d v) : ∀ {ds : List D} {vs : List V}, RepL K W ds vs → RepL K W (ds ++ [d]) (vs ++ [v])
  | [], _, h => by
    obtain rfl := h
    exact ⟨v, [], rfl, r, rfl⟩
  | _ :: _, _, h => by
    obtain ⟨w', t, rfl, h1, h2⟩ := h
    exact ⟨w', t ++ [v], rfl, h1, RepL.snoc r h2⟩
theorem wipe_get (σ : L2.St) : ∀ (vs : List Nat) (i : Nat), i ∉ vs → (wipe σ vs)[i]? = σ[i]?
  | [], _, _ => rfl
  | v :: vs, i, h => by
    rw [wipe, List.getElem?_set_ne (fun e => h (by rw [e]; exact List.mem_cons_self))]
    exact wipe_get σ vs i fun z => h (List.mem_cons_of_mem _ z)
theorem wipe_in (σ : L2.St) : ∀ (vs : List Nat) (i : Nat), i ∈ vs → i < σ.length → (wipe σ vs)[i]? = some none
  | v :: vs, i, h, hl => by
    rw [wipe]
    by_cases e : v = i
    · rw [e, List.getElem?_set_self (by rw [wipe_length]; exact hl)]
    · rw [List.getElem?_set_ne e]
      rcases List.mem_cons.mp h with z | z
      · exact absurd z.symm e
      · exact wipe_in σ vs i z hl
theorem wipe_idem (σ : L2.St) (vs : List Nat) : wipe (wipe σ vs) vs = wipe σ vs := by
  apply List.ext_getElem?
  intro i
  by_cases h : i ∈ vs
  · by_cases hl : i < σ.length
    · rw [wipe_in _ vs i h (by rw [wipe_length]; exact hl), wipe_in σ vs i h hl]
    · rw [List.getElem?_eq_none (by rw [wipe_length, wipe_length]; omega), List.getElem?_eq_none (by rw [wipe_length]; omega)]
  · rw [wipe_get _ vs i h]
/-- a target as the hand layer has it, that stores in these slots alone -/
def GRaw (K : PySem.W.Frag) (tgt : TG) (g : SG) (vs : List Nat) : Prop := ∀ v σ H Q, tG K g v σ H Q → tgt v σ H fun σ2 H2 => L2.wipe σ2 vs = L2.wipe σ vs ∧ Q σ2 H2
def GRaws (K : PySem.W.Frag) (tgt : TGs) (gs : List SG) (vs : List Nat) : Prop := ∀ v σ H Q, tGs K gs v σ H Q → tgt v σ H fun σ2 H2 => L2.wipe σ2 vs = L2.wipe σ vs ∧ Q σ2 H2
theorem wipe_set (σ : L2.St) (i : Nat) (o : Option V) (vs : List Nat) (h : i ∈ vs) : L2.wipe (σ.set i o) vs = L2.wipe σ vs := by
  apply List.ext_getElem?
  intro j
  by_cases hj : j ∈ vs
  · by_cases hl : j < σ.length
    · rw [wipe_in _ vs j hj (by rw [List.length_set]; exact hl), wipe_in σ vs j hj hl]
    · rw [List.getElem?_eq_none (by rw [wipe_length, List.length_set]; omega), List.getElem?_eq_none (by rw [wipe_length]; omega)]
  · rw [wipe_get _ vs j hj, wipe_get σ vs j hj, List.getElem?_set_ne fun e => hj (by rw [← e]; exact h)]
theorem gr_name {K : PySem.W.Frag} {i : Nat} {vs : List Nat} (h : i ∈ vs := by simp) : GRaw K (gName i) (gN i) vs := fun v σ H Q ⟨W, S, env, d, hH, s, ev, r, env', e, q⟩ => by
  subst hH
  cases e
  exact ⟨wipe_set σ i _ vs h, q W _ (Le.refl W) s (ev.set r)⟩
theorem grs_nil {K : PySem.W.Frag} {vs : List Nat} : GRaws K gNil [] vs := fun v σ H Q ⟨W, S, env, d, hH, s, ev, r, env', e, q⟩ => by
  subst hH
  cases d with
  | nil =>
    cases e
    exact ⟨r, rfl, q W σ (Le.refl W) s ev⟩
  | cons d t => cases e
theorem grs_cons {K : PySem.W.Frag} {t : TG} {u : TGs} {g : SG} {gs : List SG} {vs : List Nat} (h1 : GRaw K t g vs) (h2 : GRaws K u gs vs) (mono : ∀ v σ H Q Q', (∀ σ H, Q σ H → Q' σ H) → t v σ H Q → t v σ H Q') (mono2 : ∀ v σ H Q Q', (∀ σ H, Q σ H → Q' σ H) → u v σ H Q → u v σ H Q') : GRaws K (gCons t u) (g :: gs) vs := fun v σ H Q ⟨W, S, env, d, hH, s, ev, r, env', e, q⟩ => by
  subst hH
  cases d with
  | nil => cases e
  | cons d rs =>
    obtain ⟨v1, t1, rfl, ra, rb⟩ := r
    obtain ⟨env1, e1, e2⟩ := Option.bind_eq_some_iff.mp e
    refine ⟨v1, t1, rfl, mono _ _ _ _ _ ?_ (h1 v1 σ W.H (fun σ2 H2 => u t1 σ2 H2 fun σ3 H3 => L2.wipe σ3 vs = L2.wipe σ2 vs ∧ Q σ3 H3) ⟨W, S, env, d, rfl, s, ev, ra, env1, e1, fun W1 σ1 l1 s1 ev1 => ?_⟩)⟩
    · rintro σ2 H2 ⟨w2, z⟩
      exact mono2 _ _ _ _ _ (fun σ3 H3 ⟨w3, z3⟩ => ⟨w3.trans w2, z3⟩) z
    · exact h2 t1 σ1 W1.H Q ⟨W1, S, env1, rs, rfl, s1, ev1, rb.le l1, env', e2, fun W2 σ2 l2 s2 ev2 => q W2 σ2 (l1.trans l2) s2 ev2⟩
theorem gName_mono (i : Nat) : ∀ v σ H Q Q', (∀ σ H, Q σ H → Q' σ H) → gName i v σ H Q → gName i v σ H Q' := fun _ _ _ _ _ h q => h _ _ q
theorem gNil_mono : ∀ v σ H Q Q', (∀ σ H, Q σ H → Q' σ H) → gNil v σ H Q → gNil v σ H Q' := fun _ _ _ _ _ h q => ⟨q.1, h _ _ q.2⟩
theorem gCons_mono {t : TG} {u : TGs} (mono : ∀ v σ H Q Q', (∀ σ H, Q σ H → Q' σ H) → t v σ H Q → t v σ H Q') (mono2 : ∀ v σ H Q Q', (∀ σ H, Q σ H → Q' σ H) → u v σ H Q → u v σ H Q') : ∀ v σ H Q Q', (∀ σ H, Q σ H → Q' σ H) → gCons t u v σ H Q → gCons t u v σ H Q' := fun v σ H Q Q' h ⟨v1, r, e, q⟩ =>
  ⟨v1, r, e, mono _ _ _ _ _ (fun σ1 H1 z => mono2 _ _ _ _ _ h z) q⟩
theorem gTup_mono {K : PySem.W.Frag} {n : Nat} {u : TGs} (mono2 : ∀ v σ H Q Q', (∀ σ H, Q σ H → Q' σ H) → u v σ H Q → u v σ H Q') : ∀ v σ H Q Q', (∀ σ H, Q σ H → Q' σ H) → gTup K n u v σ H Q → gTup K n u v σ H Q' := fun v σ H Q Q' h ⟨a, xs, e, t, l, q⟩ =>
  ⟨a, xs, e, t, l, mono2 _ _ _ _ _ h q⟩
theorem gr_tup {K : PySem.W.Frag} {u : TGs} {gs : List SG} {n : Nat} {vs : List Nat} (h : GRaws K u gs vs) (hn : n = gs.length := by rfl) : GRaw K (gTup K n u) (gT gs) vs := fun v σ H Q ⟨W, S, env, d, hH, s, ev, r, env', e, q⟩ => by
  subst hH hn
  cases d with
  | tup ds =>
    obtain ⟨a, xs, rfl, t, rl⟩ := r
    exact ⟨a, xs, rfl, t.sq, by rw [rl.length]; exact gAll_len e, h xs σ W.H Q ⟨W, S, env, ds, rfl, s, ev, rl, env', e, q⟩⟩
  | _ => cases e
theorem lc_of [Fin' fin] {src : SA} {g : SG} {vs : List Nat} {c : SB} {el : SE} {tgt : TG} (hg : GRaw X.K tgt g vs) (mono : ∀ v σ H Q Q', (∀ σ H, Q σ H → Q' σ H) → tgt v σ H Q → tgt v σ H Q') (σ : L2.St) (H : Hp) (Q : VK) :
    tE X.K tg E (eLc fin src g vs c el) σ H Q → tLc (tI X.K tg E src) tgt (tT X.K tg E0 c) (tE X.K tg E0 el) vs σ H Q := fun ⟨W, S, env, hW, s, ev, p⟩ => by
    subst hW
    refine ⟨W, S, env, rfl, s, ev, (Post.bind (ρ := fun W ds J => SrcOk X.K J W ds) p).imp ?_⟩
    rintro J H1 ⟨W1, ds, S1, rfl, l1, s1, r1, p1⟩
    intro q hq
    have C0 := Came.laid (c := .lst []) (o := .lst []) s1 hq (show RepL X.K W1 [] [] from rfl)
    refine ⟨fun i m H => m = ds.length - i ∧ i ≤ ds.length ∧ ∃ G S2 acc av, G.H = H ∧ Came X.K W1 G S2 (.lst acc) q ∧ G.H q = some (.lst av) ∧ RepL X.K G acc av ∧
      Post (ρV X.K) X.K tg E W1 ((lcL g c el (wipeE env vs) (ds.drop i) acc S2).bind fun out S2 => fin (.lst out) S2) Q, ⟨ds.length, rfl, Nat.zero_le _, _, S1, [], [], rfl, C0, upd_same, rfl, p1⟩, ?_⟩
    rintro i m H ⟨rfl, hi, G, S2, acc, av, rfl, C, hav, rav, p2⟩
    obtain ⟨h1, h2⟩ := r1 G S2 C.le C.ok i
    by_cases hlt : i < ds.length
    · obtain ⟨go, yl⟩ := h2 ds[i] (List.getElem?_eq_getElem hlt)
      refine .inr ⟨go, fun H => ∃ G S2 acc av, G.H = H ∧ Came X.K W1 G S2 (.lst acc) q ∧ G.H q = some (.lst av) ∧ RepL X.K G acc av ∧
        Post (ρV X.K) X.K tg E W1 ((lcL g c el (wipeE env vs) (ds.drop (i + 1)) acc S2).bind fun out S2 => fin (.lst out) S2) Q, fun H' q' => ⟨ds.length - (i + 1), by omega, rfl, hlt, q'⟩, fun x H' y => ?_⟩
      obtain ⟨W3, rfl, l3, s3, r3⟩ := yl x H' y
      rw [List.drop_eq_getElem_cons hlt] at p2
      unfold lcL at p2
      cases q3 : g ds[i] (wipeE env vs) with
      | none => rw [q3] at p2; exact p2.elim
      | some env3 =>
        rw [q3] at p2
        dsimp only at p2
        have lW3 : Le W1 W3 := C.le.trans l3
        refine mono _ _ _ _ _ (fun σ2 H2 z => ⟨by rw [z.1, wipe_idem], z.2⟩) (hg _ _ _ _ ⟨W3, S2, wipeE env vs, ds[i], rfl, s3, ((ev.le l1).le lW3).wipes vs, r3, env3, q3, fun W4 σ4 l4 s4 ev4 => ?_⟩)
        · have lG4 : Le G W4 := l3.trans l4
          have kept : ∀ W5, Le W4 W5 → W5.H q = some (.lst av) := fun W5 l5 => by
            rcases (lG4.trans l5).keep q _ hav (.inr (.inr C.gd)) with z | ⟨z, _⟩
            · exact z
            · exact z.elim
          -- the test
          have hb : ∃ b Sb, c env3 S2 = .ok b Sb ∧ Post (ρV X.K) X.K tg E W1 ((if b = true then (Hx.noX (el env3 Sb)).bind fun y S2 => if acc.length < sizeLine then lcL g c el (wipeE env vs) (ds.drop (i + 1)) (acc ++ [y]) S2 else .stuck else lcL g c el (wipeE env vs) (ds.drop (i + 1)) acc Sb).bind fun out S2 => fin (.lst out) S2) Q := by
            cases z : c env3 S2 with
            | ok b Sb => rw [z] at p2; exact ⟨b, Sb, rfl, p2⟩
            | exc x Sb => rw [z] at p2; exact p2.elim
            | stuck => rw [z] at p2; exact p2.elim
          obtain ⟨b, Sb, eb, pb⟩ := hb
          refine ⟨W4, S2, env3, rfl, s4, ev4, ?_⟩
          rw [eb]
          intro W5 b' l5 s5 rb
          obtain rfl : b' = b := rb
          cases b' with
          | false =>
            rw [if_neg Bool.false_ne_true] at pb ⊢
            refine ⟨W5, Sb, acc, av, rfl, ⟨C.le.trans (lG4.trans l5), s5, (lG4.trans l5).pr1 q C.gd, C.nw, C.np, _, kept W5 l5, rav.le (lG4.trans l5)⟩, kept W5 l5, rav.le (lG4.trans l5), pb⟩
          | true =>
            rw [if_pos rfl] at pb ⊢
            have he : ∃ y Sy, el env3 Sb = .ok y Sy ∧ acc.length < sizeLine ∧ Post (ρV X.K) X.K tg E W1 ((lcL g c el (wipeE env vs) (ds.drop (i + 1)) (acc ++ [y]) Sy).bind fun out S2 => fin (.lst out) S2) Q := by
              cases z : el env3 Sb with
              | ok y Sy =>
                rw [z] at pb
                by_cases hl : acc.length < sizeLine
                · simp only [Hx.noX, R.bind_ok, if_pos hl] at pb
                  exact ⟨y, Sy, rfl, hl, pb⟩
                · simp only [Hx.noX, R.bind_ok, if_neg hl] at pb
                  exact pb.elim
              | exc x Sy => rw [z] at pb; exact pb.elim
              | stuck => rw [z] at pb; exact pb.elim
            obtain ⟨y, Sy, ey, hl, py⟩ := he
            refine ⟨W5, Sb, env3, rfl, s5, ev4.le l5, ?_⟩
            rw [ey]
            intro W6 yv l6 s6 ry
            have lG6 : Le G W6 := lG4.trans (l5.trans l6)
            have k6 : W6.H q = some (.lst av) := by
              rcases lG6.keep q _ hav (.inr (.inr C.gd)) with z | ⟨z, _⟩
              · exact z
              · exact z.elim
            have r6 : RepL X.K W6 (acc ++ [y]) (av ++ [yv]) := RepL.snoc ry (rav.le lG6)
            refine ⟨av, k6, by rw [rav.length]; exact hl, ?_⟩
            have gd6 : W6.pr q := lG6.pr1 q C.gd
            exact ⟨W6.fill q (.lst (av ++ [yv])), Sy, acc ++ [y], av ++ [yv], rfl, ⟨(C.le.trans lG6).fill C.nw, s6.fill gd6 True.intro, gd6, C.nw, C.np, _, upd_same, r6.lw (Lw.fill gd6)⟩, upd_same, r6.lw (Lw.fill gd6), py⟩
    · have ei : i = ds.length := by omega
      subst ei
      rw [List.drop_length] at p2
      exact .inl ⟨h1 (Nat.le_refl _), Fin'.out C p2⟩
theorem j_lc [Fin' fin] {src : SA} {g : SG} {vs : List Nat} {c : SB} {el : SE} {tgt : TG} (hg : GRaw X.K tgt g vs) (mono : ∀ v σ H Q Q', (∀ σ H, Q σ H → Q' σ H) → tgt v σ H Q → tgt v σ H Q')
    (h : PE X e (tLc (tI X.K tg E src) tgt (tT X.K tg E0 c) (tE X.K tg E0 el) vs)) : JE X tg E e (eLc fin src g vs c el) := pe_weak h (lc_of hg mono)
end
end Hx
set_option Elab.async false
set_option linter.all false
set_option maxRecDepth 100000
/-! HxDef: calls of defs, defs by their bodies. -/
namespace Hx
open PySem PySem.Spec PyProof.Rows L2

/-- the def of a name does what F says, k calls deep at most -/
structure DOk (P : Program) (w : World) (K : PySem.W.Frag) (mg : Str → Option Value) (base : Heap) (tg : Addr) (k : Nat) (x : Str) (F : SF) : Prop where
  ex : ∃ (f : Addr) (fd : FuncData) (ps : List Str), mg x = some (.ref f) ∧ PySem.W.keepIn K (.ref f) = true ∧ Binds K fd ps [] ∧ FnOk P w K mg base (L2.CX P w) k f fd ps (spF K tg F)
theorem DOk.mono {P : Program} {w : World} {K : PySem.W.Frag} {mg : Str → Option Value} {base : Heap} {tg : Addr} {j k : Nat} {x : Str} {F : SF} (h : DOk P w K mg base tg j x F) (hk : j ≤ k) : DOk P w K mg base tg k x F := by
  obtain ⟨f, fd, ps, a, b, c, d⟩ := h.ex
  exact ⟨f, fd, ps, a, b, c, d.mono hk⟩
section
variable {X : Cx} {tg : Addr} {E : XK} {e : Expr} {f : SE} {fa : SA} {x : Str} {F : SF} {k : Nat}
theorem j_fn (h : PE X e (tCall (spF X.K tg F) [] E (tA X.K tg E fa))) : JE X tg E e (eCB F fa) :=
  pe_weak h fun σ H Q ⟨W, S, env, hW, s, ev, p⟩ => by
    subst hW
    refine tA.mk s ev ((Post.bind (ρ := ρL X.K) p).imp ?_)
    rintro vs H1 ⟨W1, ds, S1, rfl, l1, s1, r1, p1⟩
    exact ⟨W1, S1, ds, rfl, s1, by rw [List.append_nil]; exact r1, p1⟩
theorem j_fn0 (h : PE X e (tCall (spF X.K tg F) [] E tNil)) : JE X tg E e (eCB F aNil) :=
  pe_weak h fun σ H Q ⟨W, S, env, hW, s, ev, p⟩ => by
    subst hW
    exact ⟨W, S, [], rfl, s, rfl, p⟩
/-- a call by name: mk is the hand layer's own rule -/
theorem j_call (D : DOk X.prog X.w X.K X.mg X.base tg k x F) (mk : ∀ (f : Addr) (fd : FuncData) (ps : List Str), FnOk X.prog X.w X.K X.mg X.base (L2.CX X.prog X.w) k f fd ps (spF X.K tg F) → X.mg x = some (.ref f) → PySem.W.keepIn X.K (.ref f) = true → Binds X.K fd ps [] → PE X e (tCall (spF X.K tg F) [] E (tA X.K tg E fa))) :
    JE X tg E e (eCB F fa) := by
  obtain ⟨f, fd, ps, a, b, c, d⟩ := D.ex
  exact j_fn (mk f fd ps d a b c)
theorem j_call0 (D : DOk X.prog X.w X.K X.mg X.base tg k x F) (mk : ∀ (f : Addr) (fd : FuncData) (ps : List Str), FnOk X.prog X.w X.K X.mg X.base (L2.CX X.prog X.w) k f fd ps (spF X.K tg F) → X.mg x = some (.ref f) → PySem.W.keepIn X.K (.ref f) = true → Binds X.K fd ps [] → PE X e (tCall (spF X.K tg F) [] E tNil)) :
    JE X tg E e (eCB F aNil) := by
  obtain ⟨f, fd, ps, a, b, c, d⟩ := D.ex
  exact j_fn0 (mk f fd ps d a b c)
end

/-! ### a def by its body -/
def defF (ar n : Nat) (u : SS) : SF := fun ds S => if ds.length = ar then (match u (ds.map some ++ List.replicate (n - ar) none) S with
  | .rt d S' => .ok d S'
  | .nx _ S' => .ok .non S'
  | .exc x S' => .exc x S'
  | _ => .stuck) else .stuck
theorem evR_start {K : PySem.W.Frag} {W : Wd} : ∀ {ds : List D} {vs : List V}, RepL K W ds vs → ∀ m : Nat, EvR K W (ds.map some ++ List.replicate m none) (vs.map some ++ List.replicate m none)
  | [], vs, h, m => by
    obtain rfl := h
    refine ⟨by simp, fun i d e => ?_⟩
    simp only [List.map_nil, List.nil_append, List.getElem?_replicate] at e
    split at e
    · cases e
    · cases e
  | d :: r, vs, h, m => by
    obtain ⟨v, t, rfl, h1, h2⟩ := h
    have ih := evR_start h2 m
    refine ⟨by simpa using ih.1, fun i u e => ?_⟩
    cases i with
    | zero =>
      simp only [List.map_cons, List.cons_append, List.getElem?_cons_zero, Option.some.injEq] at e
      subst e
      exact ⟨v, by simp, h1⟩
    | succ i =>
      simp only [List.map_cons, List.cons_append, List.getElem?_cons_succ] at e ⊢
      exact ih.2 i u e
section
variable {P : Program} {w : World} {K : PySem.W.Frag} {mg : Str → Option Value} {base : Heap} {tg : Addr}
theorem def_fn {x qual : Str} {st : Stmt} {f : Addr} {fd : FuncData} {N ps : List Str} {k : Nat} {u : SS} (Fn : Fun K x qual st f fd) (Sc : FnScope N ps (defScope st))
    (body : ∀ (cdv : Value) (A : Around) (outer : List Env) (s : Shared) (H : Hp) (E : XK), Room k (A.deeper (envOfC qual (defScope st) s.heap.objs.size f cdv)) →
      JB (cxOf (L2.CX P w) P w K mg base N qual (defScope st) f cdv A outer s H E) tg E (defBody st) u) : FnOk P w K mg base (L2.CX P w) (k + 1) f fd ps (spF K tg (defF ps.length N.length u)) := by
  refine Fn.okX Sc (fun vs H Q E h => ?_) (fun cdv A outer s H vs Q E hr h => ?_)
  · obtain ⟨W, S, ds, _, _, r, p⟩ := h
    unfold defF at p
    split at p
    · rename_i hl
      rw [r.length]
      exact hl
    · exact p.elim
  · obtain ⟨W, S, ds, hH, so, r, p⟩ := h
    subst hH
    unfold defF at p
    split at p
    · rename_i hl
      refine ⟨tS K tg E u, body cdv A outer s W.H E hr, ?_⟩
      refine tS.mk (env := ds.map some ++ List.replicate (N.length - ps.length) none) so ?_ ?_
      · unfold L2.start
        rw [r.length, hl]
        exact evR_start r _
      · split at p
        · rename_i d S' e
          rw [e]
          exact p
        · rename_i e' S' e
          rw [e]
          exact fun W' σ' l s' _ => p W' .non l s' rfl
        · rename_i d S' e
          rw [e]
          exact p
        · exact p.elim
    · exact p.elim
theorem FnOk.cut {f : Addr} {fd : FuncData} {ps : List Str} {k : Nat} {F : SF} (h : FnOk P w K mg base (L2.CX P w) k f fd ps (spF K tg F)) (hl : ∀ ds S, ds.length ≠ ps.length → F ds S = .stuck) : FnOk P w K mg base (L2.CX P w) k f fd ps (spF K tg (cutF F)) :=
  h.imp fun vs H Q E ⟨W, S, ds, hH, s, r, p⟩ => ⟨W, S, ds, hH, s, r, Post.uncut s p⟩
/-- the def as callers want it: what it has made goes, but what it hands back -/
theorem def_ok {x qual : Str} {st : Stmt} {f : Addr} {fd : FuncData} {N ps : List Str} {k : Nat} {u : SS} (Fn : Fun K x qual st f fd) (Sc : FnScope N ps (defScope st)) (hmg : mg x = some (.ref f)) (hb : Binds K fd ps [])
    (body : ∀ (cdv : Value) (A : Around) (outer : List Env) (s : Shared) (H : Hp) (E : XK), Room k (A.deeper (envOfC qual (defScope st) s.heap.objs.size f cdv)) →
      JB (cxOf (L2.CX P w) P w K mg base N qual (defScope st) f cdv A outer s H E) tg E (defBody st) u) : DOk P w K mg base tg (k + 1) x (cutF (defF ps.length N.length u)) :=
  ⟨f, fd, ps, hmg, Fn.kp, hb, FnOk.cut (def_fn Fn Sc body) fun ds S h => by unfold defF; rw [if_neg h]⟩
/-- the def with all that it has made left in the store -/
theorem def_raw {x qual : Str} {st : Stmt} {f : Addr} {fd : FuncData} {N ps : List Str} {k : Nat} {u : SS} (Fn : Fun K x qual st f fd) (Sc : FnScope N ps (defScope st)) (hmg : mg x = some (.ref f)) (hb : Binds K fd ps [])
    (body : ∀ (cdv : Value) (A : Around) (outer : List Env) (s : Shared) (H : Hp) (E : XK), Room k (A.deeper (envOfC qual (defScope st) s.heap.objs.size f cdv)) →
      JB (cxOf (L2.CX P w) P w K mg base N qual (defScope st) f cdv A outer s H E) tg E (defBody st) u) : DOk P w K mg base tg (k + 1) x (defF ps.length N.length u) :=
  ⟨f, fd, ps, hmg, Fn.kp, hb, def_fn Fn Sc body⟩
end
end Hx
set_option Elab.async false
set_option linter.all false
set_option maxRecDepth 100000
/-! HxOps: operators, comparisons, subscripts, slices on data. -/
namespace Hx
open PySem PySem.Spec PyProof.Rows L2

/-! ### what a datum holds -/
def conL (S : Store) : D → Option (List D)
  | .lst ds => some ds
  | .obj i => match S[i]? with
    | some (.lst ds) => some ds
    | _ => none
  | _ => none
def seqL (S : Store) : D → Option (List D)
  | .tup ds => some ds
  | .scr ns => some (ns.map .int)
  | d => conL S d
section
variable {K : PySem.W.Frag} {W : Wd} {S : Store} {d : D} {v : V} {ds : List D} {vs : List V}
theorem Rep.con (s : SOk K W S) (r : Rep K W d v) (h : conL S d = some ds) : ∃ a vs, v = .ref a ∧ W.H a = some (.lst vs) ∧ RepL K W ds vs := by
  cases d with
  | lst es =>
    cases h
    obtain ⟨a, vs, e, t, q⟩ := r
    exact ⟨a, vs, e, t.1, q⟩
  | obj i =>
    unfold conL at h
    dsimp only at h
    split at h
    · rename_i es e
      cases h
      obtain ⟨vs, e2, q⟩ := s.ob i _ e
      exact ⟨_, vs, r.2, e2, q⟩
    · cases h
  | _ => cases h
theorem RepL.ints : ∀ ns : List Int, RepL K W (ns.map D.int) (ns.map V.int)
  | [] => rfl
  | n :: r => ⟨.int n, r.map V.int, rfl, rfl, RepL.ints r⟩
theorem Rep.seq (s : SOk K W S) (r : Rep K W d v) (h : seqL S d = some ds) : ∃ a vs, v = .ref a ∧ (SqL K W.H a vs ∨ SqT K W.H a vs) ∧ RepL K W ds vs := by
  cases d with
  | tup es =>
    cases h
    obtain ⟨a, vs, e, t, q⟩ := r
    exact ⟨a, vs, e, .inr t.sq, q⟩
  | scr ns =>
    cases h
    obtain ⟨a, e, t⟩ := r
    exact ⟨a, _, e, .inl t.sq, RepL.ints ns⟩
  | lst es =>
    obtain ⟨a, vs, e, t, q⟩ := Rep.con s r h
    exact ⟨a, vs, e, .inl (.inl (.inl t)), q⟩
  | obj i =>
    obtain ⟨a, vs, e, t, q⟩ := Rep.con s r h
    exact ⟨a, vs, e, .inl (.inl (.inl t)), q⟩
  | _ => cases h
theorem RepL.get : ∀ {ds : List D} {vs : List V} {i : Nat} {d : D}, RepL K W ds vs → ds[i]? = some d → ∃ v, vs[i]? = some v ∧ Rep K W d v
  | [], _, i, d, _, e => by simp at e
  | a :: r, vs, 0, d, h, e => by
    obtain ⟨v, t, rfl, h1, h2⟩ := h
    simp only [List.getElem?_cons_zero, Option.some.injEq] at e
    subst e
    exact ⟨v, rfl, h1⟩
  | a :: r, vs, i + 1, d, h, e => by
    obtain ⟨v, t, rfl, h1, h2⟩ := h
    simp only [List.getElem?_cons_succ] at e ⊢
    exact RepL.get h2 e
theorem RepL.app : ∀ {ds es : List D} {vs ws : List V}, RepL K W ds vs → RepL K W es ws → RepL K W (ds ++ es) (vs ++ ws)
  | [], _, vs, _, h, q => by
    obtain rfl := h
    exact q
  | _ :: _, _, _, _, h, q => by
    obtain ⟨v, t, rfl, h1, h2⟩ := h
    exact ⟨v, _, rfl, h1, RepL.app h2 q⟩
theorem RepL.take : ∀ (n : Nat) {ds : List D} {vs : List V}, RepL K W ds vs → RepL K W (ds.take n) (vs.take n)
  | 0, _, _, _ => by simp [RepL]
  | n + 1, [], vs, h => by
    obtain rfl := h
    rfl
  | n + 1, _ :: _, _, h => by
    obtain ⟨v, t, rfl, h1, h2⟩ := h
    exact ⟨v, _, rfl, h1, RepL.take n h2⟩
theorem RepL.drop : ∀ (n : Nat) {ds : List D} {vs : List V}, RepL K W ds vs → RepL K W (ds.drop n) (vs.drop n)
  | 0, _, _, h => h
  | n + 1, [], vs, h => by
    obtain rfl := h
    rfl
  | n + 1, _ :: _, _, h => by
    obtain ⟨v, t, rfl, h1, h2⟩ := h
    exact RepL.drop n h2
theorem RepL.rev : ∀ {ds : List D} {vs : List V}, RepL K W ds vs → RepL K W ds.reverse vs.reverse
  | [], vs, h => by
    obtain rfl := h
    rfl
  | _ :: _, _, h => by
    obtain ⟨v, t, rfl, h1, h2⟩ := h
    rw [List.reverse_cons, List.reverse_cons]
    exact RepL.snoc h1 (RepL.rev h2)
theorem RepL.set {d : D} {v : V} (r : Rep K W d v) : ∀ (i : Nat) {ds : List D} {vs : List V}, RepL K W ds vs → RepL K W (ds.set i d) (vs.set i v)
  | _, [], vs, h => by
    obtain rfl := h
    rfl
  | 0, _ :: _, _, h => by
    obtain ⟨v', t, rfl, h1, h2⟩ := h
    exact ⟨v, t, rfl, r, h2⟩
  | i + 1, _ :: _, _, h => by
    obtain ⟨v', t, rfl, h1, h2⟩ := h
    exact ⟨v', _, rfl, h1, RepL.set r i h2⟩
theorem RepL.erase : ∀ (i : Nat) {ds : List D} {vs : List V}, RepL K W ds vs → RepL K W (ds.eraseIdx i) (vs.eraseIdx i)
  | _, [], vs, h => by
    obtain rfl := h
    rfl
  | 0, _ :: _, _, h => by
    obtain ⟨v', t, rfl, h1, h2⟩ := h
    exact h2
  | i + 1, _ :: _, _, h => by
    obtain ⟨v', t, rfl, h1, h2⟩ := h
    exact ⟨v', _, rfl, h1, RepL.erase i h2⟩
theorem RepL.dropLast {ds : List D} {vs : List V} (h : RepL K W ds vs) : RepL K W ds.dropLast vs.dropLast := by
  rw [List.dropLast_eq_take, List.dropLast_eq_take, h.length]
  exact h.take _
theorem RepL.flat {ds : List D} {vs : List V} (h : RepL K W ds vs) : ∀ n : Nat, RepL K W (List.replicate n ds).flatten (List.replicate n vs).flatten
  | 0 => rfl
  | n + 1 => by
    rw [List.replicate_succ, List.replicate_succ, List.flatten_cons, List.flatten_cons]
    exact h.app (RepL.flat h n)
theorem RepL.atI {i : Int} {d : D} (h : RepL K W ds vs) (e : L2.atI ds i = some d) : ∃ v, L2.atI vs i = some v ∧ Rep K W d v := by
  unfold L2.atI at e ⊢
  rw [h.length]
  obtain ⟨j, e1, e2⟩ := Option.bind_eq_some_iff.mp e
  obtain ⟨v, e3, r⟩ := h.get e2
  exact ⟨v, by rw [e1]; exact e3, r⟩
def cutD (xs : List D) (lo hi : Option Int) : List D := (xs.drop (HT.sIx xs.length 0 lo)).take (HT.sIx xs.length xs.length hi - HT.sIx xs.length 0 lo)
theorem RepL.cutD {lo hi : Option Int} (h : RepL K W ds vs) : RepL K W (cutD ds lo hi) (cutV vs lo hi) := by
  unfold Hx.cutD cutV
  rw [h.length]
  exact (h.drop _).take _
end

section
variable {X : Cx} {tg : Addr} {E : XK}
theorem Post.give {K : PySem.W.Frag} {W : Wd} {S : Store} {d : D} {v : V} {Q : VK} (p : Post (ρV K) K tg E W (.ok d S) Q) (s : SOk K W S) (r : Rep K W d v) : Q v W.H := p W v (Le.refl W) s r

/-! ### + -/
def opAdd (fin : D → Store → R D) : D → D → Store → R D := fun x y S => match x, y with
  | .int a, .int b => .ok (.int (a + b)) S
  | .str a, .str b => if a.length + b.length ≤ sizeLine then .ok (.str (a ++ b)) S else .stuck
  | .tup a, .tup b => if a.length + b.length ≤ sizeLine then .ok (.tup (a ++ b)) S else .stuck
  | x, y => match conL S x, conL S y with
    | some a, some b => if a.length + b.length ≤ sizeLine then fin (.lst (a ++ b)) S else .stuck
    | _, _ => .stuck
def rAdd (K : PySem.W.Frag) : R2 := fun x y H Q => rI0 (fun i j => .int (i + j)) x y H Q ∨ (∃ i j, x = .str i ∧ y = .str j ∧ i.length + j.length ≤ sizeLine ∧ Q (.str (i ++ j)) H) ∨ rCatA K x y H Q ∨ rCat x y H Q
theorem op_addD : OpR X (binaryOp .Add) (rAdd X.K) := op_add.or (op_add_str.or (op_catA.or op_cat))
theorem conAdd {fin : D → Store → R D} [Fin' fin] {W : Wd} {S : Store} {dx dy : D} {x y : V} {Q : VK} (s : SOk X.K W S) (rx : Rep X.K W dx x) (ry : Rep X.K W dy y)
    (p : Post (ρV X.K) X.K tg E W (match conL S dx, conL S dy with
      | some a, some b => if a.length + b.length ≤ sizeLine then fin (.lst (a ++ b)) S else .stuck
      | _, _ => .stuck) Q) : rCat x y W.H Q := by
  cases e1 : conL S dx with
  | none => rw [e1] at p; exact p.elim
  | some a =>
    cases e2 : conL S dy with
    | none => rw [e1, e2] at p; exact p.elim
    | some b =>
      rw [e1, e2] at p
      dsimp only at p
      split at p
      · rename_i hl
        obtain ⟨a1, vs, rfl, h1, r1⟩ := rx.con s e1
        obtain ⟨a2, ws, rfl, h2, r2⟩ := ry.con s e2
        exact ⟨a1, a2, vs, ws, rfl, rfl, h1, h2, by rw [r1.length, r2.length]; exact hl, fun q hq => Fin'.laid (c := .lst (a ++ b)) (o := .lst (vs ++ ws)) s (r1.app r2) p hq⟩
      · exact p.elim
theorem k_add {fin : D → Store → R D} [Fin' fin] : Op2 X tg E (rAdd X.K) (opAdd fin) := fun W S dx dy x y Q s rx ry p => by
  unfold opAdd at p
  split at p
  · rename_i a b
    exact .inl ⟨a, b, rx, ry, p.give s rfl⟩
  · rename_i a b
    split at p
    · rename_i hl
      exact .inr (.inl ⟨a, b, rx, ry, hl, p.give s rfl⟩)
    · exact p.elim
  · rename_i a b
    split at p
    · rename_i hl
      obtain ⟨a1, vs, rfl, t1, r1⟩ := rx
      obtain ⟨a2, ws, rfl, t2, r2⟩ := ry
      refine .inr (.inr (.inl ⟨a1, a2, vs, ws, rfl, rfl, t1.sq, t2.sq, by rw [r1.length, r2.length]; exact hl, fun e => ?_, fun _ e => ?_, fun _ _ q hq => ?_⟩))
      · subst e
        have ea : a = [] := List.eq_nil_of_length_eq_zero r1.length.symm
        subst ea
        exact p.give s ⟨a2, ws, rfl, t2, r2⟩
      · subst e
        have ea : b = [] := List.eq_nil_of_length_eq_zero r2.length.symm
        subst ea
        rw [List.append_nil] at p
        exact p.give s ⟨a1, vs, rfl, t1, r1⟩
      · exact Post.newTup s (r1.app r2) p hq
    · exact p.elim
  · exact .inr (.inr (.inr (conAdd s rx ry p)))

/-! ### -, *, //, % -/
def opI (c : Int → Int → Bool) (g : Int → Int → D) : D → D → Store → R D := fun x y S => match x, y with
  | .int a, .int b => if c a b = true then .ok (g a b) S else .stuck
  | _, _ => .stuck
theorem k_int0 {g : Int → Int → V} {g' : Int → Int → D} (hg : ∀ W i j, Rep X.K W (g' i j) (g i j)) : Op2 X tg E (rI0 g) (opI (fun _ _ => true) g') := fun W S dx dy x y Q s rx ry p => by
  unfold opI at p
  split at p
  · rename_i a b
    rw [if_pos rfl] at p
    exact ⟨a, b, rx, ry, p.give s (hg W a b)⟩
  · exact p.elim
theorem k_int {c : Int → Int → Bool} {C : Int → Int → Prop} {g : Int → Int → V} {g' : Int → Int → D} (hc : ∀ i j, c i j = true → C i j) (hg : ∀ W i j, Rep X.K W (g' i j) (g i j)) : Op2 X tg E (rI C g) (opI c g') := fun W S dx dy x y Q s rx ry p => by
  unfold opI at p
  split at p
  · rename_i a b
    split at p
    · rename_i h
      exact ⟨a, b, rx, ry, hc a b h, p.give s (hg W a b)⟩
    · exact p.elim
  · exact p.elim
def opSub : D → D → Store → R D := opI (fun _ _ => true) fun a b => .int (a - b)
theorem k_sub : Op2 X tg E (rI0 fun i j => .int (i - j)) opSub := k_int0 fun _ _ _ => rfl
def opDiv : D → D → Store → R D := opI (fun _ j => decide (j ≠ 0 ∧ j.natAbs < 1073741824)) fun a b => .int (a.fdiv b)
theorem k_div : Op2 X tg E (rI CDivN fun i j => .int (i.fdiv j)) opDiv := k_int (fun _ _ h => by simpa [CDivN] using h) fun _ _ _ => rfl
def opMod : D → D → Store → R D := opI (fun _ j => decide (j ≠ 0)) fun a b => .int (a.fmod b)
theorem k_mod : Op2 X tg E (rI (fun _ j => j ≠ 0) fun i j => .int (i.fmod j)) opMod := k_int (fun _ _ h => of_decide_eq_true h) fun _ _ _ => rfl
def small64 (i : Int) : Bool := decide (-18446744073709551616 < i ∧ i < 18446744073709551616)
def opMul (fin : D → Store → R D) : D → D → Store → R D := fun x y S => match x, y with
  | .int a, .int b => if (small64 a || small64 b) = true then .ok (.int (a * b)) S else .stuck
  | .tup a, .int k => if a ≠ [] ∧ 2 ≤ k ∧ k ≤ 1000 ∧ a.length ≤ 1000 then .ok (.tup (List.replicate k.toNat a).flatten) S else .stuck
  | x, .int k => match conL S x with
    | some a => if -9223372036854775808 ≤ k ∧ k < 9223372036854775808 ∧ a.length * k.toNat ≤ sizeLine then fin (.lst (List.replicate k.toNat a).flatten) S else .stuck
    | none => .stuck
  | _, _ => .stuck
def rMulD (K : PySem.W.Frag) : R2 := fun x y H Q => rI CMul (fun i j => .int (i * j)) x y H Q ∨ rRepT K x y H Q ∨ rRep x y H Q
theorem op_mulD : OpR X (binaryOp .Mult) (rMulD X.K) := op_mul.or (op_repT.or op_rep)
theorem k_mul {fin : D → Store → R D} [Fin' fin] : Op2 X tg E (rMulD X.K) (opMul fin) := fun W S dx dy x y Q s rx ry p => by
  unfold opMul at p
  split at p
  · rename_i a b
    split at p
    · rename_i h
      simp only [small64, Bool.or_eq_true, decide_eq_true_eq] at h
      exact .inl ⟨a, b, rx, ry, h, p.give s rfl⟩
    · exact p.elim
  · rename_i a k
    split at p
    · rename_i h
      obtain ⟨a1, vs, rfl, t1, r1⟩ := rx
      refine .inr (.inl ⟨a1, k, vs, rfl, ry, t1.sq, fun e => h.1 ?_, h.2.1, h.2.2.1, by rw [r1.length]; exact h.2.2.2, fun q hq => Post.newTup s (r1.flat _) p hq⟩)
      subst e
      exact List.eq_nil_of_length_eq_zero r1.length.symm
    · exact p.elim
  · rename_i k _ _
    cases e1 : conL S dx with
    | none => rw [e1] at p; exact p.elim
    | some a =>
      rw [e1] at p
      dsimp only at p
      split at p
      · rename_i h
        obtain ⟨a1, vs, rfl, h1, r1⟩ := rx.con s e1
        exact .inr (.inr ⟨a1, k, vs, rfl, ry, h1, h.1, h.2.1, by rw [r1.length]; exact h.2.2, fun q hq => Fin'.laid (c := .lst _) (o := .lst _) s (r1.flat _) p hq⟩)
      · exact p.elim
  · exact p.elim
def opNeg : D → Store → R D := fun x S => match x with
  | .int a => .ok (.int (-a)) S
  | _ => .stuck
theorem k_neg : Op1 X tg E (rU fun i => .int (-i)) opNeg := fun W S dx x Q s rx p => by
  unfold opNeg at p
  split at p
  · rename_i a
    exact ⟨a, rx, p.give s rfl⟩
  · exact p.elim

/-! ### <, <=, >, >= of ints -/
def opLt : D → D → Store → R D := opI (fun _ _ => true) fun a b => .bl (decide (a < b))
def opLe : D → D → Store → R D := opI (fun _ _ => true) fun a b => .bl (decide (a ≤ b))
def opGt : D → D → Store → R D := opI (fun _ _ => true) fun a b => .bl (decide (b < a))
def opGe : D → D → Store → R D := opI (fun _ _ => true) fun a b => .bl (decide (b ≤ a))
theorem k_lt : Op2 X tg E (rI0 fun i j => .bl (decide (i < j))) opLt := k_int0 fun _ _ _ => rfl
theorem k_le : Op2 X tg E (rI0 fun i j => .bl (decide (i ≤ j))) opLe := k_int0 fun _ _ _ => rfl
theorem k_gt : Op2 X tg E (rI0 fun i j => .bl (decide (j < i))) opGt := k_int0 fun _ _ _ => rfl
theorem k_ge : Op2 X tg E (rI0 fun i j => .bl (decide (j ≤ i))) opGe := k_int0 fun _ _ _ => rfl

/-! ### is None -/
def opIsN : D → D → Store → R D := fun x y S => match y with
  | .non => .ok (.bl (decide (x = .non))) S
  | _ => .stuck
def opNotN : D → D → Store → R D := fun x y S => match y with
  | .non => .ok (.bl (!decide (x = .non))) S
  | _ => .stuck
theorem Rep.non_iff {K : PySem.W.Frag} {W : Wd} {d : D} {v : V} (r : Rep K W d v) : decide (v = .non) = decide (d = .non) := by
  cases d with
  | non => rw [show v = V.non from r]; simp
  | bl b => rw [show v = V.bl b from r]; simp
  | int b => rw [show v = V.int b from r]; simp
  | str b => rw [show v = V.str b from r]; simp
  | tup b => obtain ⟨a, _, e, _⟩ := r; rw [e]; simp
  | lst b => obtain ⟨a, _, e, _⟩ := r; rw [e]; simp
  | dK b => obtain ⟨a, _, e, _⟩ := r; rw [e]; simp
  | dT b => obtain ⟨a, _, e, _⟩ := r; rw [e]; simp
  | obj b => rw [r.2]; simp
  | scr b => obtain ⟨a, e, _⟩ := r; rw [e]; simp
theorem k_isN : Op2 X tg E (fun x y H Q => y = .non ∧ Q (.bl (decide (x = .non))) H) opIsN := fun W S dx dy x y Q s rx ry p => by
  unfold opIsN at p
  split at p
  · refine ⟨ry, ?_⟩
    rw [rx.non_iff]
    exact p.give s rfl
  · exact p.elim
theorem k_notN : Op2 X tg E (fun x y H Q => y = .non ∧ Q (.bl (!decide (x = .non))) H) opNotN := fun W S dx dy x y Q s rx ry p => by
  unfold opNotN at p
  split at p
  · refine ⟨ry, ?_⟩
    rw [rx.non_iff]
    exact p.give s rfl
  · exact p.elim

/-! ### == and != of data -/
mutual
def pyG (g : Nat → Option PyData) : D → Option PyData
  | .non => some .none
  | .bl b => some (.bool b)
  | .int i => some (.int i)
  | .str x => some (.str x)
  | .tup ds => (pyL g ds).map .tuple
  | .lst ds => (pyL g ds).map .list
  | .obj i => g i
  | _ => none
def pyL (g : Nat → Option PyData) : List D → Option (List PyData)
  | [] => some []
  | d :: r => match pyG g d, pyL g r with
    | some x, some y => some (x :: y)
    | _, _ => none
end
def pyO (S : Store) : Nat → Nat → Option PyData
  | 0, _ => none
  | k + 1, i => match S[i]? with
    | some (.lst ds) => (pyL (pyO S k) ds).map .list
    | _ => none
/-- the datum that a value is -/
def toPy (S : Store) (d : D) : Option PyData := pyG (pyO S 3) d
section
variable {K : PySem.W.Frag} {W : Wd} {S : Store}
section
variable {g : Nat → Option PyData} (hg : ∀ i p v, g i = some p → Rep K W (.obj i) v → Dp K W.H v p)
include hg
mutual
theorem Rep.dpG : ∀ {d : D} {v : V} {p : PyData}, Rep K W d v → pyG g d = some p → Dp K W.H v p
  | .non, v, p, r, h => by
    simp only [pyG, Option.some.injEq] at h
    rw [show v = V.non from r, ← h]
    exact .non
  | .bl b, v, p, r, h => by
    simp only [pyG, Option.some.injEq] at h
    rw [show v = V.bl b from r, ← h]
    exact .bl b
  | .int b, v, p, r, h => by
    simp only [pyG, Option.some.injEq] at h
    rw [show v = V.int b from r, ← h]
    exact .int b
  | .str b, v, p, r, h => by
    simp only [pyG, Option.some.injEq] at h
    rw [show v = V.str b from r, ← h]
    exact .str b
  | .tup ds, v, p, r, h => by
    obtain ⟨a, vs, rfl, t, q⟩ := r
    simp only [pyG, Option.map_eq_some_iff] at h
    obtain ⟨xs, h, rfl⟩ := h
    exact .tup t.sq (RepL.dpG q h)
  | .lst ds, v, p, r, h => by
    obtain ⟨a, vs, rfl, t, q⟩ := r
    simp only [pyG, Option.map_eq_some_iff] at h
    obtain ⟨xs, h, rfl⟩ := h
    exact .lst t.sq (RepL.dpG q h)
  | .obj i, v, p, r, h => hg i p v h r
  | .dK _, _, _, _, h => by simp [pyG] at h
  | .dT _, _, _, _, h => by simp [pyG] at h
  | .scr _, _, _, _, h => by simp [pyG] at h
theorem RepL.dpG : ∀ {d : List D} {v : List V} {p : List PyData}, RepL K W d v → pyL g d = some p → DpAll K W.H v p
  | [], v, p, r, h => by
    simp only [pyL, Option.some.injEq] at h
    rw [show v = [] from r, ← h]
    exact .nil
  | d :: t, v, p, r, h => by
    obtain ⟨v1, vs, rfl, r1, r2⟩ := r
    simp only [pyL] at h
    split at h
    · rename_i x y e1 e2
      simp only [Option.some.injEq] at h
      rw [← h]
      exact .cons (Rep.dpG r1 e1) (RepL.dpG r2 e2)
    · cases h
end
end
theorem pyO_ok (s : SOk K W S) : ∀ (k i : Nat) (p : PyData) (v : V), pyO S k i = some p → Rep K W (.obj i) v → Dp K W.H v p
  | 0, _, _, _, h, _ => by simp [pyO] at h
  | k + 1, i, p, v, h, r => by
    unfold pyO at h
    split at h
    · rename_i ds e
      simp only [Option.map_eq_some_iff] at h
      obtain ⟨xs, h, rfl⟩ := h
      obtain ⟨vs, e2, q⟩ := s.ob i _ e
      rw [r.2]
      exact .lst (.inl (.inl e2)) (RepL.dpG (pyO_ok s k) q h)
    · cases h
theorem Rep.dp (s : SOk K W S) {d : D} {v : V} {p : PyData} (r : Rep K W d v) (h : toPy S d = some p) : Dp K W.H v p := Rep.dpG (pyO_ok s 3) r h
end
def eqD (S : Store) (x y : D) : Option Bool := match x, y with
  | .int a, .int b => some (decide (a = b))
  | .str a, .str b => some (decide (a = b))
  | .bl a, .bl b => some (decide (a = b))
  | x, y => match toPy S x, toPy S y with
    | some p, some q => if SeqAt.shaped p = true ∧ SeqAt.shaped q = true then some (PyData.eqv p q) else none
    | _, _ => none
def opEq : D → D → Store → R D := fun x y S => match eqD S x y with
  | some b => .ok (.bl b) S
  | none => .stuck
def opNe : D → D → Store → R D := fun x y S => match eqD S x y with
  | some b => .ok (.bl (!b)) S
  | none => .stuck
def rEqX (K : PySem.W.Frag) : R2 := fun x y H Q => rEq x y H Q ∨ rEqD K x y H Q
def rNeX (K : PySem.W.Frag) : R2 := fun x y H Q => rNe x y H Q ∨ rNeD K x y H Q
theorem op_eqX (hu : X.A.units + 64 < cLine) : OpR X (compareOp .Eq) (rEqX X.K) := op_eq.or (op_eqD hu)
theorem op_neX (hu : X.A.units + 64 < cLine) : OpR X (compareOp .NotEq) (rNeX X.K) := op_ne.or (op_neD hu)
theorem eqD_ok {K : PySem.W.Frag} {W : Wd} {S : Store} {dx dy : D} {x y : V} {b : Bool} (s : SOk K W S) (rx : Rep K W dx x) (ry : Rep K W dy y) (h : eqD S dx dy = some b) :
    (scal x y = true ∧ b = decide (x = y)) ∨ ∃ d e, Dp K W.H x d ∧ Dp K W.H y e ∧ SeqAt.shaped d = true ∧ SeqAt.shaped e = true ∧ b = PyData.eqv d e := by
  unfold eqD at h
  split at h
  · rename_i a c
    cases h
    rw [show x = V.int a from rx, show y = V.int c from ry]
    exact .inl ⟨rfl, by simp⟩
  · rename_i a c
    cases h
    rw [show x = V.str a from rx, show y = V.str c from ry]
    exact .inl ⟨rfl, by simp⟩
  · rename_i a c
    cases h
    rw [show x = V.bl a from rx, show y = V.bl c from ry]
    exact .inl ⟨rfl, by simp⟩
  · split at h
    · rename_i p q e1 e2
      split at h
      · rename_i hs
        cases h
        exact .inr ⟨p, q, rx.dp s e1, ry.dp s e2, hs.1, hs.2, rfl⟩
      · cases h
    · cases h
theorem k_eq : Op2 X tg E (rEqX X.K) opEq := fun W S dx dy x y Q s rx ry p => by
  unfold opEq at p
  split at p
  · rename_i b hb
    rcases eqD_ok s rx ry hb with ⟨h1, rfl⟩ | ⟨d, e, h1, h2, h3, h4, rfl⟩
    · exact .inl ⟨h1, p.give s rfl⟩
    · exact .inr ⟨d, e, h1, h2, h3, h4, p.give s rfl⟩
  · exact p.elim
theorem k_ne : Op2 X tg E (rNeX X.K) opNe := fun W S dx dy x y Q s rx ry p => by
  unfold opNe at p
  split at p
  · rename_i b hb
    rcases eqD_ok s rx ry hb with ⟨h1, rfl⟩ | ⟨d, e, h1, h2, h3, h4, rfl⟩
    · exact .inl ⟨h1, p.give s rfl⟩
    · exact .inr ⟨d, e, h1, h2, h3, h4, p.give s rfl⟩
  · exact p.elim

/-! ### in, not in a list or a tuple of flat things -/
def flatD : D → Bool
  | .non => true
  | .bl _ => true
  | .int _ => true
  | .str _ => true
  | _ => false
def toV : D → V
  | .bl b => .bl b
  | .int i => .int i
  | .str x => .str x
  | _ => .non
theorem Rep.toV {K : PySem.W.Frag} {W : Wd} {d : D} {v : V} (r : Rep K W d v) (h : flatD d = true) : v = Hx.toV d := by
  cases d with
  | non => exact r
  | bl b => exact r
  | int b => exact r
  | str b => exact r
  | _ => simp [flatD] at h
theorem RepL.toV {K : PySem.W.Frag} {W : Wd} : ∀ {d : List D} {v : List V}, RepL K W d v → d.all flatD = true → v = d.map Hx.toV
  | [], v, r, _ => r
  | d :: t, v, r, h => by
    obtain ⟨v1, vs, rfl, r1, r2⟩ := r
    simp only [List.all_cons, Bool.and_eq_true] at h
    rw [r1.toV h.1, RepL.toV r2 h.2]
    rfl
theorem flat_toV {d : D} (h : flatD d = true) : flatV (Hx.toV d) = true := by
  cases d with
  | non => rfl
  | bl b => rfl
  | int b => rfl
  | str b => rfl
  | _ => simp [flatD] at h
theorem flat_toVs {ds : List D} (h : ds.all flatD = true) : (ds.map Hx.toV).all flatV = true := by
  rw [List.all_map]
  rw [List.all_eq_true] at h ⊢
  exact fun d hd => flat_toV (h d hd)
def inD (S : Store) (x y : D) : Option Bool := match seqL S y with
  | some ds => if flatD x = true ∧ ds.all flatD = true then some (inV (toV x) (ds.map toV)) else none
  | none => none
def opIn : D → D → Store → R D := fun x y S => match inD S x y with
  | some b => .ok (.bl b) S
  | none => .stuck
def opNotIn : D → D → Store → R D := fun x y S => match inD S x y with
  | some b => .ok (.bl (!b)) S
  | none => .stuck
theorem inD_ok {K : PySem.W.Frag} {W : Wd} {S : Store} {dx dy : D} {x y : V} {b : Bool} (s : SOk K W S) (rx : Rep K W dx x) (ry : Rep K W dy y) (h : inD S dx dy = some b) :
    ∃ p xs, y = .ref p ∧ (SqL K W.H p xs ∨ SqT K W.H p xs) ∧ flatV x = true ∧ xs.all flatV = true ∧ b = inV x xs := by
  unfold inD at h
  split at h
  · rename_i ds e
    split at h
    · rename_i hf
      cases h
      obtain ⟨a, vs, rfl, t, r⟩ := ry.seq s e
      have ev := r.toV hf.2
      have ex := rx.toV hf.1
      subst ev ex
      exact ⟨a, _, rfl, t, flat_toV hf.1, flat_toVs hf.2, rfl⟩
    · cases h
  · cases h
theorem k_in : Op2 X tg E (rIn X.K false) opIn := fun W S dx dy x y Q s rx ry p => by
  unfold opIn at p
  split at p
  · rename_i b hb
    obtain ⟨a, xs, rfl, h1, h2, h3, rfl⟩ := inD_ok s rx ry hb
    exact ⟨a, xs, rfl, h1, h2, h3, p.give s rfl⟩
  · exact p.elim
theorem k_notIn : Op2 X tg E (rIn X.K true) opNotIn := fun W S dx dy x y Q s rx ry p => by
  unfold opNotIn at p
  split at p
  · rename_i b hb
    obtain ⟨a, xs, rfl, h1, h2, h3, rfl⟩ := inD_ok s rx ry hb
    exact ⟨a, xs, rfl, h1, h2, h3, p.give s rfl⟩
  · exact p.elim

/-! ### items, slices -/
def opIx : D → D → Store → R D := fun x y S => match y, seqL S x with
  | .int i, some ds => match L2.atI ds i with
    | some d => .ok d S
    | none => .stuck
  | _, _ => .stuck
def rIxA (K : PySem.W.Frag) : R2 := fun x y H Q => rIxL K x y H Q ∨ rIxT K x y H Q
theorem ix_any : IxR X (rIxA X.K) := ix_list.or ix_tup
theorem k_ix : Op2 X tg E (rIxA X.K) opIx := fun W S dx dy x y Q s rx ry p => by
  unfold opIx at p
  split at p
  · rename_i i ds e
    split at p
    · rename_i d hd
      obtain ⟨a, vs, rfl, t, r⟩ := rx.seq s e
      obtain ⟨v, hv, rv⟩ := r.atI hd
      rcases t with t | t
      · exact .inl ⟨a, vs, i, v, rfl, ry, t, hv, p.give s rv⟩
      · exact .inr ⟨a, vs, i, v, rfl, ry, t, hv, p.give s rv⟩
    · exact p.elim
  · exact p.elim
def SO (K : PySem.W.Frag) (tg : Addr) (E : XK) (f : Ev → Store → R (Option Int)) : TO := fun σ H Q => ∃ W S env, W.H = H ∧ SOk K W S ∧ EvR K W env σ ∧ Post (fun _ a b => b = a) K tg E W (f env S) Q
def oNone : Ev → Store → R (Option Int) := fun _ S => .ok none S
def oSome (f : SE) : Ev → Store → R (Option Int) := fun env S => (f env S).bind fun d S1 => match d with
  | .int i => .ok (some i) S1
  | _ => .stuck
end
end Hx
set_option Elab.async false
set_option linter.all false
set_option maxRecDepth 100000
set_option maxHeartbeats 1000000
/-! HxSl: slices, the whole backwards, of tuples too. -/
namespace Hx
open PySem PySem.Spec PyProof.Rows L2
section
variable {prog : Program} {w : World} {A : Around} {E : Value → Shared → Prop} {s : Shared}
theorem back_places (n : Nat) : Builtin.Slice.slicePlaces ((n : Int) - 1) (-1) (-1) = n := by
  unfold Builtin.Slice.slicePlaces
  rw [if_neg (by decide)]
  by_cases h : n = 0
  · subst h; rfl
  · rw [if_pos (by omega)]
    have e : ((n : Int) - 1 - -1 - 1) / (- -1) + 1 = n := by
      have : (- -1 : Int) = 1 := by decide
      rw [this, Int.ediv_one]
      omega
    rw [e]
    exact Int.toNat_natCast n
theorem back_pick (xs : Array Value) : ((List.range xs.size).filterMap fun (k : Nat) => xs[((xs.size : Int) - 1 + (k : Int) * -1).toNat]?).toArray = xs.toList.reverse.toArray := by
  congr 1
  have e : ∀ k ∈ List.range xs.size, xs[((xs.size : Int) - 1 + (k : Int) * -1).toNat]? = xs.toList.reverse[k]? := fun k hk => by
    have hk' := List.mem_range.mp hk
    have e1 : ((xs.size : Int) - 1 + (k : Int) * -1).toNat = xs.size - 1 - k := by omega
    rw [e1, List.getElem?_reverse (by simpa using hk'), Array.getElem?_toList, Array.length_toList]
  have congr : ∀ (l : List Nat) (f g : Nat → Option Value), (∀ k ∈ l, f k = g k) → l.filterMap f = l.filterMap g := fun l f g h => by
    induction l with
    | nil => rfl
    | cons a r ih =>
      rw [List.filterMap_cons, List.filterMap_cons, h a List.mem_cons_self, ih fun k hk => h k (List.mem_cons_of_mem _ hk)]
  rw [congr _ _ _ e]
  have g : ∀ (l : List Value), (List.range l.length).filterMap (fun k => l[k]?) = l := fun l => by
    induction l with
    | nil => rfl
    | cons a r ih =>
      rw [List.length_cons, List.range_succ_eq_map, List.filterMap_cons]
      simp only [List.getElem?_cons_zero, List.filterMap_map]
      congr 1
  have := g xs.toList.reverse
  rw [List.length_reverse, Array.length_toList] at this
  exact this
theorem back_applied {sl : Addr} {vl vu vs : Value} {n : Nat} {Q : Int × Int × Nat → Shared → Prop} (hs : s.heap.IsSliceOf sl vl vu vs) (pl : IsPart vl none) (pu : IsPart vu none) (ps : IsPart vs (some (-1)))
    (h : Q ((n : Int) - 1, -1, n) s) : wpAny (model prog w) A (Builtin.Slice.sliceApplied (.ref sl) (pure (n : Int))) Q E s := by
  obtain ⟨os, hos, hcs, hds⟩ := id hs
  unfold Builtin.Slice.sliceApplied Builtin.Slice.sliceFields
  refine wpAny_bind (wpAny_bind (wpAny_field hos hds (x := vl) rfl (wpAny_bind (wpAny_field hos hds (x := vu) rfl (wpAny_bind (wpAny_field hos hds (x := vs) rfl (wpAny_pure ?_)))))))
  refine wpAny_bind (HT.slicePart_ ps ?_)
  show wpAny _ _ (if ((-1 : Int) == 0) = true then _ else _) _ _ s
  rw [if_neg (by decide)]
  refine wpAny_bind (HT.slicePart_ pl (wpAny_bind (HT.slicePart_ pu (wpAny_bind (wpAny_pure ?_)))))
  show wpAny _ _ (pure ((n : Int) - 1, (-1 : Int), Builtin.Slice.slicePlaces ((n : Int) - 1) (-1) (-1))) _ _ s
  rw [back_places]
  exact wpAny_pure h
theorem getItem_tuple_back {t sl : Addr} {items : Array Value} {vl vu vs : Value} {Q : Value → Shared → Prop} (ht : IsTup s.heap t items) (hs : s.heap.IsSliceOf sl vl vu vs) (pl : IsPart vl none) (pu : IsPart vu none) (ps : IsPart vs (some (-1)))
    (h : Q (.ref s.heap.objs.size) { s with heap := s.heap.push { cls := .type "tuple", data := .seq items.toList.reverse.toArray } }) (hsz : items.size ≤ sizeLine) : wpAny (model prog w) A (getItem (.ref t) (.ref sl)) Q E s := by
  have hrev : sizeOk (.seq items.toList.reverse.toArray) := by
    show items.toList.reverse.toArray.size ≤ sizeLine
    rw [List.size_toArray, List.length_reverse, Array.length_toList]
    exact hsz
  obtain ⟨os, hos, hcs, hds⟩ := id hs
  have hTs : s.TypeIs (.ref sl) "slice" := ⟨os, hos, hcs⟩
  unfold getItem
  try with_reducible refine wpAny_holding ?_
  first | refine wpAny_bind (wpAny_pure ?_) | skip
  refine wpAny_bind (wpAny_sequenceKey ht.typeIs (by decide) ?_)
  refine wpAny_bind (wpAny_callSpecial?_slot (name := Str.ofString "__getitem__") ht.typeIs PyProof.Rows.slot_tuple_getitem
    (wpAny_call_entry PyProof.Rows.slot_tuple_getitem ht.typeIs entry_tuple_getitem ?_ (args_tuple_getitem _ _)))
  show wpAny _ _ (Builtin.Tuple.tupleItemsOf (.ref t) >>= _) _ _ s
  refine wpAny_bind (tupleItemsOf_ ht ?_)
  refine wpAny_bind (wpAny_typeOf hTs ?_)
  rw [if_pos (by decide)]
  refine wpAny_bind (back_applied hs pl pu ps ?_)
  have hno : ¬ ((((items.size : Int) - 1) == 0 && (-1 : Int) == 1 && items.size == items.size) = true) := by simp
  show wpAny _ _ (if (((items.size : Int) - 1) == 0 && (-1 : Int) == 1 && items.size == items.size) = true then _ else _) _ _ s
  rw [if_neg hno, back_pick items]
  first
    | exact wpAny_bind (m := Builtin.Tuple.tupleExact _) (wpAny_newObj_type (wpAny_pure ⟨_, rfl, wpAny_pure h⟩) hrev)
    | exact wpAny_bind (m := Builtin.Tuple.tupleExact _) (wpAny_newObj_type (wpAny_bind (wpAny_pure (wpAny_pure ⟨_, rfl, wpAny_pure h⟩))) hrev)
    | exact wpAny_bind (wpAny_bind (m := Builtin.Tuple.tupleExact _) (wpAny_newObj_type (wpAny_pure (wpAny_pure ⟨_, rfl, wpAny_pure h⟩)) hrev))
    | exact wpAny_bind (wpAny_bind (m := Builtin.Tuple.tupleExact _) (wpAny_newObj_type (wpAny_pure ⟨_, rfl, wpAny_pure h⟩) hrev))
end
section
variable {X : Cx}
/-- e[::-1], of a list or of a tuple -/
def tBack (K : PySem.W.Frag) (te : TE) : TE := fun σ H Q => te σ H fun x H1 => ∃ a xs, x = .ref a ∧ ((SqL K H1 a xs ∧ ∀ p, H1 p = none → Q (.ref p) (upd H1 p (.lst xs.reverse))) ∨ (SqT K H1 a xs ∧ ∀ p, H1 p = none → Q (.ref p) (upd H1 p (.tup xs.reverse))))
theorem pe_back {e : Expr} {te : TE} {k : Nat} {p1 p2 p3 pos : Pos} (he : PE X e te) : PE X (.Subscript e (.Slice none none (some (.UnaryOp .USub (.Constant (.int 1) k p1) p2)) p3) pos) (tBack X.K te) := by
  refine ⟨fun pins s σ H Q I h => ?_⟩
  refine Subscript_ (thn (he.run pins s σ H _ I h) fun v s1 ⟨x, H1, I1, r1, q1⟩ => ?_)
  obtain ⟨a, xs, ex, hx⟩ := q1
  subst ex
  cases r1
  have hst : PO X (some (.UnaryOp .USub (.Constant (.int 1) k p1) p2)) (tPart (tUn (rU fun i => .int (-i)) (tC (.int 1)))) := po_some (pe_un un_neg pe_int)
  refine wpAny_Slice (thn (po_none.run pins s1 σ H1 (fun o H2 => o = none ∧ H2 = H1) I1 ⟨rfl, rfl⟩) fun vl s2 ⟨l, H2, I2, pl, el, e2⟩ => ?_)
  subst el e2
  refine thn (po_none.run pins s2 σ H2 (fun o H3 => o = none ∧ H3 = H2) I2 ⟨rfl, rfl⟩) fun vu s3 ⟨u, H3, I3, pu, eu, e3⟩ => ?_
  subst eu e3
  refine thn (hst.run pins s3 σ H3 (fun o H4 => o = some (-1) ∧ H4 = H3) I3 ⟨1, rfl, -1, rfl, rfl, rfl⟩) fun vs s4 ⟨o, H4, I4, ps, eo, e4⟩ => ?_
  subst eo e4
  have I5 : Inv X pins σ H4 { s4 with heap := s4.heap.push { cls := .type "slice", data := .fields #[vl, vu, vs] } } := I4.kept (t' := s4.toks) fun b ob q => Heap.get?_push_of_some _ q
  show wpAny (model X.prog X.w) X.A (subscriptTail e (.Slice none none (some (.UnaryOp .USub (.Constant (.int 1) k p1) p2)) p3) (.ref a) (.ref s4.heap.objs.size)) (EP X pins σ Q) X.xe { s4 with heap := s4.heap.push { cls := .type "slice", data := .fields #[vl, vu, vs] } }
  rcases hx with ⟨hx, q⟩ | ⟨hx, q⟩
  · obtain ⟨its, r, ht, hz⟩ := I5.list hx
    have hlen := r.length
    refine tail_any (ops := [.ref a, .ref s4.heap.objs.size]) ht.isList.typeIs (PySem.slot_list_getitem.lookup) ?_ (by with_unfolding_all rfl)
    refine wpAny_getItem_list_slice ht.isList (Heap.IsSliceOf.new _ vl vu vs) pl pu ps (by decide) ?_ (by rw [List.size_toArray]; omega)
    rw [PySem.W.krv_pick]
    refine ⟨.ref _, _, I5.laid (t' := s4.toks) (o := .lst xs.reverse) (fun b ob q => Heap.get?_push_of_some _ q) (Nat.le_refl _) ?_, rfl, q _ (I5.hok.fresh (Nat.le_refl _))⟩
    exact ⟨by rw [List.length_reverse]; exact hz, _, 0, r.reverse, Heap.get?_push_size _ rfl⟩
  · obtain ⟨its, r, ht, hz⟩ := I5.tuple hx
    have hlen := r.length
    refine tail_any (ops := [.ref a, .ref s4.heap.objs.size]) ht.typeIs (PyProof.Rows.slot_tuple_getitem.lookup) ?_ (by with_unfolding_all rfl)
    refine getItem_tuple_back ht (Heap.IsSliceOf.new _ vl vu vs) pl pu ps ?_ (by rw [List.size_toArray]; omega)
    refine ⟨.ref _, _, I5.laid (t' := s4.toks) (o := .tup xs.reverse) (fun b ob q => Heap.get?_push_of_some _ q) (Nat.le_refl _) ?_, rfl, q _ (I5.hok.fresh (Nat.le_refl _))⟩
    exact ⟨by rw [List.length_reverse]; exact hz, _, r.reverse, IsTup.new _ _⟩
variable {tg : Addr} {E : XK} {e : Expr} {f : SE} {fin : D → Store → R D} {pos : Pos}
def eBack (fin : D → Store → R D) (f : SE) : SE := fun env S => (f env S).bind fun x S1 => match x with
  | .tup ds => .ok (.tup ds.reverse) S1
  | x => match conL S1 x with
    | some ds => fin (.lst ds.reverse) S1
    | none => .stuck
theorem j_back [Fin' fin] (h : PE X e (tBack X.K (tE X.K tg E f))) : JE X tg E e (eBack fin f) :=
  pe_weak h fun σ H Q ⟨W, S, env, hW, s, ev, p⟩ => by
    subst hW
    refine tE.mk s ev ((Post.bind p).imp ?_)
    rintro x H1 ⟨W1, d1, S1, rfl, l1, s1, r1, p1⟩
    split at p1
    · rename_i ds
      obtain ⟨a, vs, rfl, t, r⟩ := r1
      exact ⟨a, vs, rfl, .inr ⟨t.sq, fun q hq => Post.newTup s1 r.rev p1 hq⟩⟩
    · cases e1 : conL S1 d1 with
      | none => rw [e1] at p1; exact p1.elim
      | some ds =>
        rw [e1] at p1
        obtain ⟨a, vs, rfl, h1, r⟩ := Rep.con s1 r1 e1
        exact ⟨a, vs, rfl, .inl ⟨.inl (.inl h1), fun q hq => Fin'.laid (c := .lst _) (o := .lst _) s1 r.rev p1 hq⟩⟩
/-- a slice -/
abbrev JO (X : Cx) (tg : Addr) (E : XK) (e : Option Expr) (f : Ev → Store → R (Option Int)) : Prop := PO X e (SO X.K tg E f)
theorem jo_none : JO X tg E none oNone := ⟨fun pins s σ H Q I ⟨W, S, env, hW, so, ev, p⟩ => (po_none (X := X)).run pins s σ H Q I (by
  subst hW
  exact p W none (Le.refl W) so rfl)⟩
theorem jo_some (h : JE X tg E e f) : JO X tg E (some e) (oSome f) := ⟨fun pins s σ H Q I ⟨W, S, env, hW, so, ev, p⟩ => (po_some h).run pins s σ H Q I (by
  subst hW
  refine tE.mk so ev ((Post.bind p).imp ?_)
  rintro x H1 ⟨W1, d1, S1, rfl, l1, s1, r1, p1⟩
  cases d1 with
  | int i => exact ⟨i, r1, p1 W1 _ (Le.refl W1) s1 rfl⟩
  | _ => exact p1.elim)⟩
def opSl (fin : D → Store → R D) (x : D) (lo hi : Option Int) (S : Store) : R D := match x with
  | .tup ds => .ok (.tup (cutD ds lo hi)) S
  | x => match conL S x with
    | some ds => fin (.lst (cutD ds lo hi)) S
    | none => .stuck
def eSl (fin : D → Store → R D) (f : SE) (lo hi : Ev → Store → R (Option Int)) : SE := fun env S => (f env S).bind fun x S1 => (lo env S1).bind fun l S2 => (hi env S2).bind fun u S3 => opSl fin x l u S3
def rSlX (K : PySem.W.Frag) : V → Option Int → Option Int → Hp → VK → Prop := fun x lo hi H Q => rSlL K x lo hi H Q ∨ rSlA K x lo hi H Q
theorem sl_any : SlR X (rSlX X.K) := sl_list.or sl_tupA
theorem j_sl [Fin' fin] {lo hi : Ev → Store → R (Option Int)} (h : PE X e (tSl (rSlX X.K) (tE X.K tg E f) (SO X.K tg E lo) (SO X.K tg E hi))) : JE X tg E e (eSl fin f lo hi) :=
  pe_weak h fun σ H Q ⟨W, S, env, hW, s, ev, p⟩ => by
    subst hW
    refine tE.mk s ev ((Post.bind p).imp ?_)
    rintro x H1 ⟨W1, d1, S1, rfl, l1, s1, r1, p1⟩
    refine ⟨W1, S1, env, rfl, s1, ev.le l1, (Post.bind (ρ := fun _ a b => b = a) p1).imp ?_⟩
    rintro l H2 ⟨W2, lo', S2, rfl, l2, s2, rfl, p2⟩
    refine ⟨W2, S2, env, rfl, s2, (ev.le l1).le l2, (Post.bind (ρ := fun _ a b => b = a) p2).imp ?_⟩
    rintro u H3 ⟨W3, hi', S3, rfl, l3, s3, rfl, p3⟩
    have r3 := (r1.le l2).le l3
    unfold opSl at p3
    split at p3
    · rename_i ds
      obtain ⟨a, vs, rfl, t, r⟩ := r3
      refine .inr ⟨a, vs, rfl, t.sq, fun e => ?_, fun _ q hq => Post.newTup s3 r.cutD p3 hq⟩
      have ed : cutD ds l u = ds := by
        unfold cutD
        rw [r.length] at e
        rw [e.1, e.2, List.drop_zero, Nat.sub_zero, List.take_length]
      rw [ed] at p3
      exact p3.give s3 ⟨a, vs, rfl, t, r⟩
    · cases e1 : conL S3 d1 with
      | none => rw [e1] at p3; exact p3.elim
      | some ds =>
        rw [e1] at p3
        obtain ⟨a, vs, rfl, h1, r⟩ := Rep.con s3 r3 e1
        exact .inl ⟨a, vs, rfl, .inl (.inl h1), fun q hq => Fin'.laid (c := .lst _) (o := .lst _) s3 r.cutD p3 hq⟩
end
end Hx
set_option Elab.async false
set_option linter.all false
set_option maxRecDepth 100000
set_option maxHeartbeats 1000000
/-! HxDictT: dicts with tuple keys: setdefault, update, dict(pairs), at the hand layer's level. -/
namespace Hx
open PySem PySem.Spec PyProof.Rows L2
section
variable {X : Cx}
theorem vals3 {x y z : V} {us : List Value} (r : Vals [x, y, z] us) : ∃ u v w, us = [u, v, w] ∧ RelV x u ∧ RelV y v ∧ RelV z w := by
  cases r with
  | cons a t =>
    cases t with
    | cons b t =>
      cases t with
      | cons c t =>
        cases t
        exact ⟨_, _, _, rfl, a, b, c⟩
def rSetT : V → List V → Hp → VK → Prop := fun x xs H Q => ∃ (a : Addr) (kvs : List (List L2.Key × V)) (k : List L2.Key) (b : Addr) (d : V), x = .ref a ∧ xs = [.ref b, d] ∧ H a = some (.dT kvs) ∧ H b = some (.tup (k.map kV)) ∧ kvs.length < sizeLine ∧
  (∀ v, valV kvs k = some v → Q v H) ∧ (valV kvs k = none → Q d (upd H a (.dT (putK kvs k d))))
theorem mt_setT (hu : X.A.units + 1 < cLine) : MtR X "dict.setdefault" rSetT := by
  intro pins s σ H x xs v us Q I rx rxs h
  obtain ⟨a, kvs, k, b, d, rfl, rfl, ha, hb, hl, q1, q2⟩ := h
  cases rx
  obtain ⟨u1, u2, rfl, r1, r2⟩ := vals2 rxs
  cases r1
  obtain ⟨z, hd, xs', rel, dd⟩ := dt_of I.hok ha
  have hz : xs'.length ≤ sizeLine := by rw [← Paired.length rel]; exact z
  refine call_setdefault_heap (knd := tupleKind (mixKind X.prog X.w)) (k := k) (hsz := hz) (tupleKind_room_in1 hu) (key_of I.hok hb) hd dd (fun p hp => ?_) (fun hn h' dd' hs => ?_)
  · have r := rel.val k
    rw [hp] at r
    obtain ⟨v0, ev, rv⟩ : ∃ v0, valV kvs k = some v0 ∧ RelV v0 p.2 := by
      cases ev : valV kvs k with
      | none =>
        rw [ev] at r
        exact (show False from r).elim
      | some v0 =>
        rw [ev] at r
        exact ⟨v0, rfl, r⟩
    exact ⟨v0, H, I.tok _, rv, q1 v0 ev⟩
  · have r := rel.val k
    rw [hn] at r
    have e : valV kvs k = none := by
      cases ev : valV kvs k with
      | none => rfl
      | some v0 =>
        rw [ev] at r
        exact (show False from r).elim
    have hlen : (putK kvs k d).length ≤ sizeLine := by have := length_putK kvs k d; omega
    obtain ⟨o, es, ep, hq, h2, h3, h4, _, h5⟩ := dd'
    have I2 : Inv X pins σ (upd H a (.dT (putK kvs k d))) { s with heap := h', toks := s.toks + (tupleKind (mixKind X.prog X.w)).draws k } :=
      d_write I (by rw [ha]; exact True.intro) hs ⟨o, hq⟩ ⟨hlen, hd, _, (rel.put k hb r2).keeps (fun c ys ec => (by rw [upd_ne (ne_of ec ha (fun z => nomatch z))]; exact ec)), o, es, ep, hq, h2, h3, h4, h5⟩
    exact ⟨d, _, I2, r2, q2 e⟩
/-- the pairs of a list: the pair's tuple and the key's -/
abbrev PrsT (H : Hp) : List (Addr × Addr) → List (List L2.Key × V) → Prop := Paired fun p kv => H p.1 = some (.tup [.ref p.2, kv.2]) ∧ H p.2 = some (.tup (kv.1.map kV))
theorem prsT_of {pins : List (Addr × Obj)} {σ : L2.St} {H : Hp} {s : Shared} (I : Inv X pins σ H s) : ∀ {ps : List (Addr × Addr)} {kvs : List (List L2.Key × V)}, PrsT H ps kvs →
    ∃ xs : List (List L2.Key × Addr × Value), KT H kvs xs ∧ xs.length = ps.length ∧ ∀ (j : Nat) (q : List L2.Key × Addr × Value), xs[j]? = some q → ∃ p : Addr × Addr, ps[j]? = some p ∧ q.2.1 = p.2 ∧ IsTup s.heap p.1 #[.ref p.2, q.2.2]
  | _, _, .nil => ⟨[], .nil, rfl, fun j q e => by simp at e⟩
  | _, _, .cons (a := p) (b := kv) h t => by
    obtain ⟨xs, r, hl, hp⟩ := prsT_of I t
    obtain ⟨its, rv, ht, _⟩ := I.tuple (SqT.of h.1)
    obtain ⟨u, y, ei, ru, ry⟩ := vals2 rv
    subst ei
    cases ru
    refine ⟨(kv.1, p.2, y) :: xs, .cons ⟨rfl, h.2, ry⟩ r, by rw [List.length_cons, List.length_cons, hl], fun j q e => ?_⟩
    cases j with
    | zero =>
      have e' : (kv.1, p.2, y) = q := Option.some.inj e
      subst e'
      exact ⟨p, rfl, rfl, ht⟩
    | succ j => exact hp j q (by simpa using e)
theorem prs_tup {H : Hp} : ∀ {ps : List (Addr × Addr)} {kvs : List (List L2.Key × V)} {j : Nat} {p : Addr × Addr}, PrsT H ps kvs → ps[j]? = some p → ∃ ws, H p.1 = some (.tup ws)
  | _, _, j, x, .nil, h => by simp at h
  | _, _, 0, x, .cons f _, h => by
    simp only [List.getElem?_cons_zero, Option.some.injEq] at h
    subst h
    exact ⟨_, f.1⟩
  | _, _, j + 1, x, .cons _ t, h => by
    simp only [List.getElem?_cons_succ] at h
    exact prs_tup t h
theorem pairAt_of {h : Heap} {T : Addr} {k v : Value} (x : IsTup h T #[k, v]) : PairAt h T k v := by
  obtain ⟨o, ho, hc, n, hd⟩ := x
  exact .inl ⟨o, ho, hc, n, hd⟩
def mergeT (kvs more : List (List L2.Key × V)) : List (List L2.Key × V) := more.foldl (fun acc kv => putK acc kv.1 kv.2) kvs
theorem mergeT_length : ∀ (more kvs : List (List L2.Key × V)), (mergeT kvs more).length ≤ kvs.length + more.length
  | [], kvs => Nat.le_refl _
  | p :: r, kvs => by
    have h1 := mergeT_length r (putK kvs p.1 p.2)
    have h2 := length_putK kvs p.1 p.2
    show (mergeT (putK kvs p.1 p.2) r).length ≤ _
    rw [List.length_cons]
    omega
theorem KT.merge {H : Hp} : ∀ {more : List (List L2.Key × V)} {ps : List (List L2.Key × Addr × Value)} {kvs : List (List L2.Key × V)} {xs : List (List L2.Key × Addr × Value)}, KT H more ps → KT H kvs xs → KT H (mergeT kvs more) (storedAllH xs ps)
  | _, _, _, _, .nil, h => h
  | _, _, _, _, .cons a t, h => by
    obtain ⟨e1, e2, e3⟩ := a
    have := KT.merge t (h.put _ e2 e3)
    rw [e1] at this
    show KT H (mergeT (putK _ _ _) _) _
    rw [e1]
    exact this
theorem map_fst_get {ps : List (Addr × Addr)} {j : Nat} {p : Addr × Addr} (e : ps[j]? = some p) : (ps.map fun p => Value.ref p.1)[j]? = some (.ref p.1) := by rw [List.getElem?_map, e]; rfl
/-- what the list of pairs is for the library's own rule -/
theorem arg_of {pins : List (Addr × Obj)} {σ : L2.St} {H : Hp} {s : Shared} (I : Inv X pins σ H s) {l : Addr} {ps : List (Addr × Addr)} {kvs : List (List L2.Key × V)} (hl : H l = some (.lst (ps.map fun p => V.ref p.1))) (hp : PrsT H ps kvs) :
    ∃ xs : List (List L2.Key × Addr × Value), KT H kvs xs ∧ xs.length = ps.length ∧ ps.length ≤ sizeLine ∧
      PairArg X.prog X.w "list" l (l :: (List.range (xs.map fun x => (Value.ref x.2.1, x.2.2)).length).map fun j => ((ps[j]?).map (·.1)).getD 0) [] (xs.map fun x => (Value.ref x.2.1, x.2.2)).length (PairRel (xs.map fun x => (Value.ref x.2.1, x.2.2))) (fun h => PlainSeq "list" h l ((ps.map fun p => Value.ref p.1).toArray) ∧ PairItems h ((ps.map fun p => Value.ref p.1).toArray) (fun j => ((ps[j]?).map (·.1)).getD 0) (xs.map fun x => (Value.ref x.2.1, x.2.2))) ∧
      (PlainSeq "list" s.heap l ((ps.map fun p => Value.ref p.1).toArray) ∧ PairItems s.heap ((ps.map fun p => Value.ref p.1).toArray) (fun j => ((ps[j]?).map (·.1)).getD 0) (xs.map fun x => (Value.ref x.2.1, x.2.2))) := by
  obtain ⟨xs, rel, hlen, hx⟩ := prsT_of I hp
  obtain ⟨its, rv, pl, hz⟩ := I.list (SqL.of hl)
  have ei : its = ps.map fun p => Value.ref p.1 := by
    have : ∀ (qs : List (Addr × Addr)) (us : List Value), Vals (qs.map fun p => V.ref p.1) us → us = qs.map fun p => Value.ref p.1 := fun qs => by
      induction qs with
      | nil => intro us r; cases r; rfl
      | cons q t ih =>
        intro us r
        cases r with
        | cons a b =>
          cases a
          rw [List.map_cons, ih _ b]
    exact this ps its rv
  subst ei
  obtain ⟨o, n, ho, hc, hd, hdat⟩ := pl
  refine ⟨xs, rel, hlen, by rw [List.length_map] at hz; exact hz, PairArg.list l _ _ _, ⟨o, n, ho, hc, hd, hdat⟩, by simp [hlen], fun j k v e => ?_⟩
  rw [List.getElem?_map] at e
  obtain ⟨q, e1, e2⟩ := Option.map_eq_some_iff.mp e
  obtain ⟨p, ep, eq, ht⟩ := hx j q e1
  cases e2
  have ep' : ((ps[j]?).map (·.1)).getD 0 = p.1 := by rw [ep]; rfl
  refine ⟨by
    show _ = some (Value.ref (((ps[j]?).map (·.1)).getD 0))
    rw [ep', List.getElem?_toArray]
    exact map_fst_get ep, ?_⟩
  show PairAt s.heap (((ps[j]?).map (·.1)).getD 0) _ _
  rw [ep', eq]
  exact pairAt_of ht
theorem have_of (xs : List (List L2.Key × Addr × Value)) : PairsHaveH (tupleKind (mixKind X.prog X.w)) (xs.map fun x => (Value.ref x.2.1, x.2.2)).length (PairRel (xs.map fun x => (Value.ref x.2.1, x.2.2))) xs := ⟨by simp, fun i key v e => by
  have e' : (xs.map fun x => (Value.ref x.2.1, x.2.2))[i]? = some (key, v) := e
  rw [List.getElem?_map] at e'
  obtain ⟨q, e1, e2⟩ := Option.map_eq_some_iff.mp e'
  cases e2
  exact ⟨q.1, q.2.1, e1, rfl⟩⟩
theorem KT.is {P : Program} {w : World} {H : Hp} {h : Heap} (ok : HOk P w H h) : ∀ {kvs : List (List L2.Key × V)} {xs : List (List L2.Key × Addr × Value)}, KT H kvs xs → ∀ x ∈ xs, (tupleKind (mixKind P w)).is h x.1 x.2.1
  | _, _, .nil, x, hx => by simp at hx
  | _, _, .cons a t, x, hx => by
    rcases List.mem_cons.mp hx with rfl | hx
    · obtain ⟨e1, e2, _⟩ := a
      rw [e1] at e2
      exact key_of ok e2
    · exact KT.is ok t x hx
/-- dict(a list of pairs) -/
theorem call_dictT (hcalm : X.calm = true) (hu : X.A.units + 2 < cLine) : CallR X (.type "dict") (fun xs H Q => ∃ (a : Addr) (ps : List (Addr × Addr)) (kvs : List (List L2.Key × V)), xs = [.ref a] ∧ H a = some (.lst (ps.map fun p => V.ref p.1)) ∧ PrsT H ps kvs ∧
    ∀ p, H p = none → Q (.ref p) (upd H p (.dT (mergeT [] kvs)))) := by
  intro pins s σ H xs us Q I r q
  obtain ⟨a, ps, kvs, ex, hq, hp, q⟩ := q
  subst ex
  obtain ⟨u, eu, rx⟩ := vals1 r
  subst eu
  cases rx
  obtain ⟨xs, rel, hlen, hz, P, ok⟩ := arg_of I hq hp
  have st : (tupleKind (mixKind X.prog X.w)).Stays := tupleKind_stays
  refine call_dict_pairsH (knd := tupleKind (mixKind X.prog X.w)) (ps := xs) P (I.ok.hd hcalm) (tupleKind_room_in1 (A := X.A.in1) (by show X.A.units + 1 + 1 < cLine; omega)) ok (have_of xs) (fun h' hk x hx => st.stays (fun b o vs n e _ => hk b o (Nat.ne_of_lt (Heap.lt_size e)) (by simp) e) (KT.is I.hok rel x hx)) (by simpa [hlen] using hz) fun h' tk hd' hk => ?_
  have hm : (s.heap.objs.size == sysModules) = false := beq_eq_false_iff_ne.mpr (Nat.ne_of_gt I.big)
  have hl2 : (mergeT [] kvs).length ≤ sizeLine := by
    refine Nat.le_trans (mergeT_length kvs []) ?_
    rw [List.length_nil, Nat.zero_add, Paired.length rel, hlen]
    exact hz
  have hf : H s.heap.objs.size = none := I.hok.fresh (Nat.le_refl _)
  obtain ⟨o, es, ep, h1, h2, h3, h4, _, h5⟩ := hd'
  refine ⟨.ref s.heap.objs.size, upd H s.heap.objs.size (.dT (mergeT [] kvs)), I.laid (t' := tk) (fun b u e => hk b u (by simp) e) (Nat.le_refl _) ?_, rfl, q _ hf⟩
  exact ⟨hl2, hm, _, (KT.merge rel .nil).keeps (fun c ys ec => by rw [upd_ne (ne_of_none ec hf)]; exact ec), o, es, ep, h1, h2, h3, h4, h5⟩
/-- d.update(a list of pairs) -/
def rUpdT : V → List V → Hp → VK → Prop := fun x xs H Q => ∃ (d a : Addr) (acc kvs : List (List L2.Key × V)) (ps : List (Addr × Addr)), x = .ref d ∧ xs = [.ref a] ∧ H d = some (.dT acc) ∧ H a = some (.lst (ps.map fun p => V.ref p.1)) ∧ PrsT H ps kvs ∧ acc.length + kvs.length ≤ sizeLine ∧
  Q .non (upd H d (.dT (mergeT acc kvs)))
theorem mt_updT (hcalm : X.calm = true) (hu : X.A.units + 1 < cLine) : MtR X "dict.update" rUpdT := by
  intro pins s σ H x xs v us Q I rx rxs h
  obtain ⟨d, a, acc, kvs, ps, rfl, rfl, hd, ha, hp, hsz, q⟩ := h
  cases rx
  obtain ⟨u, eu, ru⟩ := vals1 rxs
  subst eu
  cases ru
  obtain ⟨z, hdm, ys, rela, dd⟩ := dt_of I.hok hd
  obtain ⟨xs, rel, hlen, hz, P, ok⟩ := arg_of I ha hp
  have st : (tupleKind (mixKind X.prog X.w)).Stays := tupleKind_stays
  have hdict : ∃ o es ep, s.heap.get? d = some o ∧ o.data = .dict es ep := by
    obtain ⟨o, es, ep, h1, h2, h3, _⟩ := id dd
    exact ⟨o, es, ep, h1, h3⟩
  have ndt : ∀ {b : Addr} {ws : List V}, H b = some (.tup ws) → b ≠ d := fun e => ne_of e hd (fun z => nomatch z)
  have hfp : d ∉ a :: (List.range (xs.map fun x => (Value.ref x.2.1, x.2.2)).length).map fun j => ((ps[j]?).map (·.1)).getD 0 := by
    intro hm
    rcases List.mem_cons.mp hm with e | hm
    · exact ne_of hd ha (fun z => nomatch z) e
    · obtain ⟨j, hj, e⟩ := List.mem_map.mp hm
      rw [List.mem_range, List.length_map, hlen] at hj
      rw [List.getElem?_eq_getElem hj] at e
      have e' : ps[j].1 = d := e
      obtain ⟨ws, h1⟩ := prs_tup hp (List.getElem?_eq_getElem hj)
      exact ndt h1 e'
  refine call_update_pairsH (knd := tupleKind (mixKind X.prog X.w)) (ps := xs) P (I.ok.hd hcalm) (tupleKind_room_in1 hu) ok hfp (have_of xs) (fun h' hk x hx => ?_) dd (by rw [← Paired.length rela]; simpa [Paired.length rel] using hsz) fun h' tk hd' hk => ?_
  · refine st.stays (fun b o vs n e e2 => hk b o (fun eb => ?_) (by simp) e) ?_
    · obtain ⟨o', es, ep, h1, h2⟩ := hdict
      rw [eb, h1] at e
      cases e
      rw [h2] at e2
      cases e2
    · rcases List.mem_append.mp hx with hx | hx
      · exact KT.is I.hok rela x hx
      · exact KT.is I.hok rel x hx
  · have hl2 : (mergeT acc kvs).length ≤ sizeLine := Nat.le_trans (mergeT_length kvs acc) hsz
    obtain ⟨o, es, ep, hq, h2, h3, h4, _, h5⟩ := hd'
    have I2 : Inv X pins σ (upd H d (.dT (mergeT acc kvs))) { s with heap := h', toks := tk } :=
      I.write (t' := tk) (e := d) (by rw [hd]; exact True.intro) (.inl rfl) (fun b u hb e => hk b u hb (by simp) e) ⟨o, hq⟩ ⟨hl2, hdm, _, (KT.merge rel rela).keeps (fun c ys ec => (by rw [upd_ne (ne_of ec hd (fun z => nomatch z))]; exact ec)), o, es, ep, hq, h2, h3, h4, h5⟩
    exact ⟨.non, _, I2, rfl, q⟩
end
end Hx
set_option Elab.async false
set_option linter.all false
set_option maxRecDepth 100000
set_option maxHeartbeats 1000000
/-! HxDict: dicts on data: look-ups, stores, methods. -/
namespace Hx
open PySem PySem.Spec PyProof.Rows L2

/-! ### plain association lists -/
section
variable {κ β : Type} [DecidableEq κ]
def lk (kvs : List (κ × β)) (k : κ) : Option β := (kvs.find? fun kv => decide (kv.1 = k)).map (·.2)
def pt (kvs : List (κ × β)) (k : κ) (v : β) : List (κ × β) :=
  if (kvs.any fun kv => decide (kv.1 = k)) = true then kvs.map (fun kv => if kv.1 = k then (kv.1, v) else kv) else kvs ++ [(k, v)]
def mg (kvs more : List (κ × β)) : List (κ × β) := more.foldl (fun acc kv => pt acc kv.1 kv.2) kvs
@[simp] theorem lk_nil (k : κ) : lk ([] : List (κ × β)) k = none := rfl
theorem lk_cons (p : κ × β) (r : List (κ × β)) (k : κ) : lk (p :: r) k = if p.1 = k then some p.2 else lk r k := by
  unfold lk
  rw [List.find?_cons]
  by_cases h : p.1 = k
  · rw [decide_eq_true h, if_pos h]; rfl
  · rw [decide_eq_false h, if_neg h]
theorem any_lk (kvs : List (κ × β)) (k : κ) : (kvs.any fun kv => decide (kv.1 = k)) = (lk kvs k).isSome := by
  induction kvs with
  | nil => rfl
  | cons p r ih =>
    rw [List.any_cons, lk_cons, ih]
    by_cases h : p.1 = k
    · rw [if_pos h, decide_eq_true h]; rfl
    · rw [if_neg h, decide_eq_false h]; rfl
end
section
variable {K : PySem.W.Frag} {W : Wd} {κ : Type} [DecidableEq κ]
/-- key by key -/
abbrev PP (K : PySem.W.Frag) (W : Wd) : List (κ × D) → List (κ × V) → Prop := Paired fun p q => p.1 = q.1 ∧ Rep K W p.2 q.2
theorem pp_K : ∀ {kvs : List (L2.Key × D)} {ws : List (L2.Key × V)}, RepK K W kvs ws → PP K W kvs ws
  | [], ws, h => by
    obtain rfl := h
    exact .nil
  | (k, d) :: r, ws, h => by
    obtain ⟨v, t, rfl, h1, h2⟩ := h
    exact .cons ⟨rfl, h1⟩ (pp_K h2)
theorem pp_T : ∀ {kvs : List (List L2.Key × D)} {ws : List (List L2.Key × V)}, RepT K W kvs ws → PP K W kvs ws
  | [], ws, h => by
    obtain rfl := h
    exact .nil
  | (k, d) :: r, ws, h => by
    obtain ⟨v, t, rfl, h1, h2⟩ := h
    exact .cons ⟨rfl, h1⟩ (pp_T h2)
theorem k_pp : ∀ {kvs : List (L2.Key × D)} {ws : List (L2.Key × V)}, PP K W kvs ws → RepK K W kvs ws
  | _, _, .nil => rfl
  | _, _, .cons (a := p) (b := q) f t => ⟨q.2, _, by rw [f.1], f.2, k_pp t⟩
theorem t_pp : ∀ {kvs : List (List L2.Key × D)} {ws : List (List L2.Key × V)}, PP K W kvs ws → RepT K W kvs ws
  | _, _, .nil => rfl
  | _, _, .cons (a := p) (b := q) f t => ⟨q.2, _, by rw [f.1], f.2, t_pp t⟩
theorem pp_lk {kvs : List (κ × D)} {ws : List (κ × V)} (h : PP K W kvs ws) (k : κ) : (∀ d, lk kvs k = some d → ∃ v, valV ws k = some v ∧ Rep K W d v) ∧ (lk kvs k = none → valV ws k = none) := by
  induction h with
  | nil => exact ⟨fun d e => (by cases e), fun _ => rfl⟩
  | cons f t ih =>
    rename_i p q kvs ws
    rw [lk_cons]
    by_cases h : p.1 = k
    · rw [if_pos h]
      refine ⟨fun d e => ?_, fun e => by cases e⟩
      cases e
      exact ⟨_, valV_pos (by rw [← f.1]; exact h), f.2⟩
    · rw [if_neg h]
      rw [valV_neg (by rw [← f.1]; exact h)]
      exact ih
theorem pp_any {kvs : List (κ × D)} {ws : List (κ × V)} (h : PP K W kvs ws) (k : κ) : (kvs.any fun kv => decide (kv.1 = k)) = (ws.any fun kv => decide (kv.1 = k)) := by
  induction h with
  | nil => rfl
  | cons f t ih => rw [List.any_cons, List.any_cons, ih, f.1]
theorem pp_map {kvs : List (κ × D)} {ws : List (κ × V)} (h : PP K W kvs ws) (k : κ) {d : D} {v : V} (r : Rep K W d v) : PP K W (kvs.map fun kv => if kv.1 = k then (kv.1, d) else kv) (ws.map fun kv => if kv.1 = k then (kv.1, v) else kv) := by
  induction h with
  | nil => exact .nil
  | cons f t ih =>
    rename_i a b l1 l2
    refine .cons ?_ ih
    dsimp only
    rw [← f.1]
    by_cases h : a.1 = k
    · rw [if_pos h, if_pos h]
      exact ⟨rfl, r⟩
    · rw [if_neg h, if_neg h]
      exact f
theorem pp_snoc {kvs : List (κ × D)} {ws : List (κ × V)} (h : PP K W kvs ws) (k : κ) {d : D} {v : V} (r : Rep K W d v) : PP K W (kvs ++ [(k, d)]) (ws ++ [(k, v)]) := by
  induction h with
  | nil => exact .cons ⟨rfl, r⟩ .nil
  | cons f t ih => exact .cons f ih
theorem pp_pt {kvs : List (κ × D)} {ws : List (κ × V)} (h : PP K W kvs ws) (k : κ) {d : D} {v : V} (r : Rep K W d v) : PP K W (pt kvs k d) (putK ws k v) := by
  unfold pt putK
  rw [pp_any h k]
  split
  · exact pp_map h k r
  · exact pp_snoc h k r
theorem pp_len {kvs : List (κ × D)} {ws : List (κ × V)} (h : PP K W kvs ws) : ws.length = kvs.length := (Paired.length h).symm
end

/-! ### keys -/
def keyK : D → Option L2.Key
  | .int i => some (.inl i)
  | .str x => some (.inr x)
  | _ => none
def keyL : List D → Option (List L2.Key)
  | [] => some []
  | d :: r => match keyK d, keyL r with
    | some k, some t => some (k :: t)
    | _, _ => none
def keyT : D → Option (List L2.Key)
  | .tup ds => keyL ds
  | _ => none
def ofKey : L2.Key → D
  | .inl i => .int i
  | .inr x => .str x
section
variable {K : PySem.W.Frag} {W : Wd} {S : Store}
theorem Rep.keyK {d : D} {v : V} {k : L2.Key} (r : Rep K W d v) (h : Hx.keyK d = some k) : v = kV k := by
  cases d with
  | int i => cases h; exact r
  | str i => cases h; exact r
  | _ => cases h
theorem RepL.keyL : ∀ {ds : List D} {vs : List V} {k : List L2.Key}, RepL K W ds vs → Hx.keyL ds = some k → vs = k.map kV
  | [], vs, k, r, h => by
    cases h
    exact r
  | d :: t, vs, k, r, h => by
    obtain ⟨v, ws, rfl, r1, r2⟩ := r
    simp only [Hx.keyL] at h
    split at h
    · rename_i k1 t1 e1 e2
      cases h
      rw [r1.keyK e1, RepL.keyL r2 e2]
      rfl
    · cases h
theorem Rep.keyT {d : D} {v : V} {k : List L2.Key} (r : Rep K W d v) (h : Hx.keyT d = some k) : ∃ b, v = .ref b ∧ W.H b = some (.tup (k.map kV)) ∧ Free W b := by
  cases d with
  | tup ds =>
    obtain ⟨a, vs, rfl, t, q⟩ := r
    have e := q.keyL h
    subst e
    exact ⟨a, rfl, t.1, t.2⟩
  | _ => cases h
theorem keyL_of : ∀ {ds : List D} {k : List L2.Key}, keyL ds = some k → ds = k.map ofKey
  | [], k, h => by cases h; rfl
  | d :: t, k, h => by
    simp only [keyL] at h
    split at h
    · rename_i k1 t1 e1 e2
      cases h
      rw [keyL_of e2]
      cases d with
      | int i => cases e1; rfl
      | str i => cases e1; rfl
      | _ => cases e1
    · cases h
@[simp] theorem keyK_of (k : L2.Key) : keyK (ofKey k) = some k := by cases k <;> rfl
@[simp] theorem keyL_map : ∀ k : List L2.Key, keyL (k.map ofKey) = some k
  | [] => rfl
  | k :: r => by simp only [List.map_cons, keyL, keyK_of, keyL_map r]

/-! ### contents -/
def dicK (S : Store) : D → Option (List (L2.Key × D))
  | .dK kvs => some kvs
  | .obj i => match S[i]? with
    | some (.dK kvs) => some kvs
    | _ => none
  | _ => none
def dicT (S : Store) : D → Option (List (List L2.Key × D))
  | .dT kvs => some kvs
  | .obj i => match S[i]? with
    | some (.dT kvs) => some kvs
    | _ => none
  | _ => none
theorem Rep.dicK (s : SOk K W S) {d : D} {v : V} {kvs : List (L2.Key × D)} (r : Rep K W d v) (h : Hx.dicK S d = some kvs) : ∃ a ws, v = .ref a ∧ Rd W.H a (.dK ws) ∧ PP K W kvs ws := by
  cases d with
  | dK es =>
    cases h
    obtain ⟨a, ws, e, t, q⟩ := r
    exact ⟨a, ws, e, t.1, pp_K q⟩
  | obj i =>
    unfold Hx.dicK at h
    dsimp only at h
    split at h
    · rename_i es e
      cases h
      obtain ⟨ws, e2, q⟩ := s.ob i _ e
      exact ⟨_, ws, r.2, .inl e2, pp_K q⟩
    · cases h
  | _ => cases h
theorem Rep.dicT (s : SOk K W S) {d : D} {v : V} {kvs : List (List L2.Key × D)} (r : Rep K W d v) (h : Hx.dicT S d = some kvs) : ∃ a ws, v = .ref a ∧ Rd W.H a (.dT ws) ∧ PP K W kvs ws := by
  cases d with
  | dT es =>
    cases h
    obtain ⟨a, ws, e, t, q⟩ := r
    exact ⟨a, ws, e, t.1, pp_T q⟩
  | obj i =>
    unfold Hx.dicT at h
    dsimp only at h
    split at h
    · rename_i es e
      cases h
      obtain ⟨ws, e2, q⟩ := s.ob i _ e
      exact ⟨_, ws, r.2, .inl e2, pp_T q⟩
    · cases h
  | _ => cases h
/-- a look-up -/
def lookD (S : Store) (x k : D) : Option (Option D) := match dicK S x, keyK k with
  | some kvs, some kk => some (lk kvs kk)
  | _, _ => match dicT S x, keyT k with
    | some kvs, some kk => some (lk kvs kk)
    | _, _ => none
theorem lookD_ok (s : SOk K W S) {x k : D} {vx vk : V} {o : Option D} (rx : Rep K W x vx) (rk : Rep K W k vk) (h : lookD S x k = some o) :
    ∃ a ov, vx = .ref a ∧ IsD W.H a ∧ DGet W.H a vk ov ∧ (∀ d, o = some d → ∃ v, ov = some v ∧ Rep K W d v) ∧ (o = none → ov = none) := by
  unfold lookD at h
  split at h
  · rename_i kvs kk e1 e2
    cases h
    obtain ⟨a, ws, rfl, hd, q⟩ := rx.dicK s e1
    have ek := rk.keyK e2
    subst ek
    obtain ⟨p1, p2⟩ := pp_lk q kk
    exact ⟨a, valV ws kk, rfl, .inl ⟨ws, hd⟩, .inl ⟨ws, kk, hd, rfl, rfl⟩, p1, p2⟩
  · split at h
    · rename_i kvs kk e1 e2
      cases h
      obtain ⟨a, ws, rfl, hd, q⟩ := rx.dicT s e1
      obtain ⟨b, rfl, hb, _⟩ := rk.keyT e2
      obtain ⟨p1, p2⟩ := pp_lk q kk
      exact ⟨a, valV ws kk, rfl, .inr ⟨ws, hd⟩, .inr ⟨ws, kk, b, hd, rfl, hb, rfl⟩, p1, p2⟩
    · cases h
/-- the contents behind a store -/
def putD (S : Store) (x k d : D) : Option (Nat × D) := match x with
  | .obj i => match S[i]? with
    | some (.dK kvs) => match keyK k with
      | some kk => if kvs.length < sizeLine then some (i, .dK (pt kvs kk d)) else none
      | none => none
    | some (.dT kvs) => match keyT k with
      | some kk => if kvs.length < sizeLine then some (i, .dT (pt kvs kk d)) else none
      | none => none
    | _ => none
  | _ => none
theorem putD_ok (s : SOk K W S) {x k d c' : D} {vx vk vd : V} {i : Nat} (rx : Rep K W x vx) (rk : Rep K W k vk) (rd : Rep K W d vd) (h : putD S x k d = some (i, c')) :
    ∃ o c, vx = .ref (W.φ i) ∧ S[i]? = some c ∧ Cont c ∧ DPut W.H (W.φ i) vk vd (upd W.H (W.φ i) o) ∧ CRep K W c' o := by
  cases x with
  | obj j =>
    unfold putD at h
    dsimp only at h
    split at h
    · rename_i kvs e
      split at h
      · rename_i kk ek
        split at h
        · rename_i hl
          cases h
          obtain ⟨ws, e2, q⟩ := s.ob _ _ e
          have ev := rk.keyK ek
          subst ev
          exact ⟨_, _, rx.2, e, True.intro, DPut.k e2 (by rw [pp_len (pp_K q)]; exact hl), k_pp (pp_pt (pp_K q) kk rd)⟩
        · cases h
      · cases h
    · rename_i kvs e
      split at h
      · rename_i kk ek
        split at h
        · rename_i hl
          cases h
          obtain ⟨ws, e2, q⟩ := s.ob _ _ e
          obtain ⟨b, rfl, hb, _⟩ := rk.keyT ek
          exact ⟨_, _, rx.2, e, True.intro, DPut.t e2 hb (by rw [pp_len (pp_T q)]; exact hl), t_pp (pp_pt (pp_T q) kk rd)⟩
        · cases h
      · cases h
    · cases h
  | _ => cases h
theorem Ob.of_c {a : Addr} {c : D} {o : HO} (ha : W.H a = some o) (h : CRep K W c o) : Ob K W a c := by
  cases c <;> cases o <;> first
    | exact h.elim
    | exact ⟨_, ha, h⟩
abbrev Wd.chg (W : Wd) (i : Nat) (o : HO) : Wd := ⟨W.φ, W.n, upd W.H (W.φ i) o, W.pr⟩
theorem SOk.chg (s : SOk K W S) {i : Nat} {c c' : D} {o : HO} (e : S[i]? = some c) (hc : Cont c) (hr : CRep K W c' o) : SOk K (W.chg i o) (S.set i c') := s.put e hc (Ob.of_c upd_same (hr.lw (Le.put s e hc).lw))
theorem Post.put {tg : Addr} {E : XK} {d c c' : D} {v : V} {i : Nat} {o : HO} {Q : VK} (p : Post (ρV K) K tg E W (.ok d (S.set i c')) Q) (s : SOk K W S) (e : S[i]? = some c) (hc : Cont c) (hr : CRep K W c' o) (rd : Rep K W d v) : Q v (upd W.H (W.φ i) o) :=
  p (W.chg i o) v (Le.put s e hc) (s.chg e hc hr) (rd.le (Le.put s e hc))
end

/-! ### expressions -/
section
variable {X : Cx} {tg : Addr} {E : XK} {e : Expr} {f g h : SE} {fa : SA} {st : Stmt}
/-- d[k] -/
def opDGet (x k : D) (S : Store) : R D := match lookD S x k with
  | some (some d) => .ok d S
  | _ => .stuck
def eDGet (f g : SE) : SE := e2 opDGet f g
theorem j_dget (hh : PE X e (tDGet (tE X.K tg E f) (tE X.K tg E g))) : JE X tg E e (eDGet f g) :=
  pe_weak hh fun σ H Q ⟨W, S, env, hW, s, ev, p⟩ => by
    subst hW
    refine tE.mk s ev ((Post.bind p).imp ?_)
    rintro x H1 ⟨W1, d1, S1, rfl, l1, s1, r1, p1⟩
    refine tE.mk s1 (ev.le l1) ((Post.bind p1).imp ?_)
    rintro y H2 ⟨W2, d2, S2, rfl, l2, s2, r2, p2⟩
    unfold opDGet at p2
    split at p2
    · rename_i d hd
      obtain ⟨a, ov, rfl, _, g1, h1, _⟩ := lookD_ok s2 (r1.le l2) r2 hd
      obtain ⟨v, rfl, rv⟩ := h1 d rfl
      exact ⟨a, v, rfl, g1, p2.give s2 rv⟩
    · exact p2.elim
/-- k in d, k not in d -/
def opDIn (k x : D) (S : Store) : R D := match lookD S x k with
  | some o => .ok (.bl o.isSome) S
  | none => .stuck
def opDNot (k x : D) (S : Store) : R D := match lookD S x k with
  | some o => .ok (.bl (!o.isSome)) S
  | none => .stuck
theorem isSome_look {K : PySem.W.Frag} {W : Wd} {o : Option D} {ov : Option V} (h1 : ∀ d, o = some d → ∃ v, ov = some v ∧ Rep K W d v) (h2 : o = none → ov = none) : ov.isSome = o.isSome := by
  cases o with
  | none => rw [h2 rfl]; rfl
  | some d =>
    obtain ⟨v, e, _⟩ := h1 d rfl
    rw [e]
    rfl
theorem din_of (σ : L2.St) (H : Hp) (Q : VK) : tE X.K tg E (e2 opDIn f g) σ H Q → tDIn (tE X.K tg E f) (tE X.K tg E g) σ H Q := fun ⟨W, S, env, hW, s, ev, p⟩ => by
    subst hW
    refine tE.mk s ev ((Post.bind p).imp ?_)
    rintro x H1 ⟨W1, d1, S1, rfl, l1, s1, r1, p1⟩
    refine tE.mk s1 (ev.le l1) ((Post.bind p1).imp ?_)
    rintro y H2 ⟨W2, d2, S2, rfl, l2, s2, r2, p2⟩
    unfold opDIn at p2
    split at p2
    · rename_i o ho
      obtain ⟨a, ov, rfl, _, g1, h1, h2⟩ := lookD_ok s2 r2 (r1.le l2) ho
      refine ⟨a, ov, rfl, g1, ?_⟩
      rw [isSome_look h1 h2]
      exact p2.give s2 rfl
    · exact p2.elim
theorem j_din {op : CmpOp} {a b : Expr} {pos : Pos} (hh : PC X op a b (tDIn (tE X.K tg E f) (tE X.K tg E g))) (hb : behindInMarks op b = false) : JE X tg E (.Compare a [op] [b] pos) (e2 opDIn f g) := pe_weak (pe_cmp hh hb) din_of
theorem dnot_of (σ : L2.St) (H : Hp) (Q : VK) : tE X.K tg E (e2 opDNot f g) σ H Q → tDNotIn (tE X.K tg E f) (tE X.K tg E g) σ H Q := fun ⟨W, S, env, hW, s, ev, p⟩ => by
    subst hW
    refine tE.mk s ev ((Post.bind p).imp ?_)
    rintro x H1 ⟨W1, d1, S1, rfl, l1, s1, r1, p1⟩
    refine tE.mk s1 (ev.le l1) ((Post.bind p1).imp ?_)
    rintro y H2 ⟨W2, d2, S2, rfl, l2, s2, r2, p2⟩
    unfold opDNot at p2
    split at p2
    · rename_i o ho
      obtain ⟨a, ov, rfl, _, g1, h1, h2⟩ := lookD_ok s2 r2 (r1.le l2) ho
      refine ⟨a, ov, rfl, g1, ?_⟩
      rw [isSome_look h1 h2]
      exact p2.give s2 rfl
    · exact p2.elim
theorem j_dnot {op : CmpOp} {a b : Expr} {pos : Pos} (hh : PC X op a b (tDNotIn (tE X.K tg E f) (tE X.K tg E g))) (hb : behindInMarks op b = false) : JE X tg E (.Compare a [op] [b] pos) (e2 opDNot f g) := pe_weak (pe_cmp hh hb) dnot_of
/-- d.get(k, x), d.get(k) -/
def isDic (S : Store) (x : D) : Bool := (dicK S x).isSome || (dicT S x).isSome
theorem isDic_ok {K : PySem.W.Frag} {W : Wd} {S : Store} {x : D} {v : V} (s : SOk K W S) (r : Rep K W x v) (h : isDic S x = true) : ∃ a, v = .ref a ∧ IsD W.H a := by
  unfold isDic at h
  cases e : dicK S x with
  | some kvs =>
    obtain ⟨a, ws, e1, e2, _⟩ := r.dicK s e
    exact ⟨a, e1, .inl ⟨ws, e2⟩⟩
  | none =>
    cases e' : dicT S x with
    | some kvs =>
      obtain ⟨a, ws, e1, e2, _⟩ := r.dicT s e'
      exact ⟨a, e1, .inr ⟨ws, e2⟩⟩
    | none =>
      rw [e, e'] at h
      cases h
def eGet2 (f g h : SE) : SE := fun env S => (f env S).bind fun x S1 => if isDic S1 x = true then (g env S1).bind fun k S2 => (h env S2).bind fun z S3 => match lookD S3 x k with
  | some o => .ok (o.getD z) S3
  | none => .stuck else .stuck
theorem j_get2 (hh : PE X e (tDGet2 (tE X.K tg E f) (tE X.K tg E g) (tE X.K tg E h))) : JE X tg E e (eGet2 f g h) :=
  pe_weak hh fun σ H Q ⟨W, S, env, hW, s, ev, p⟩ => by
    subst hW
    refine tE.mk s ev ((Post.bind p).imp ?_)
    rintro x H1 ⟨W1, d1, S1, rfl, l1, s1, r1, p1⟩
    split at p1
    · rename_i hd
      obtain ⟨a, rfl, hD⟩ := isDic_ok s1 r1 hd
      refine ⟨a, rfl, hD, tE.mk s1 (ev.le l1) ((Post.bind p1).imp ?_)⟩
      rintro y H2 ⟨W2, d2, S2, rfl, l2, s2, r2, p2⟩
      refine tE.mk s2 ((ev.le l1).le l2) ((Post.bind p2).imp ?_)
      rintro z H3 ⟨W3, d3, S3, rfl, l3, s3, r3, p3⟩
      split at p3
      · rename_i o ho
        obtain ⟨a', ov, ea, _, g1, h1, h2⟩ := lookD_ok s3 ((r1.le l2).le l3) (r2.le l3) ho
        cases ea
        refine ⟨ov, g1, ?_⟩
        cases o with
        | none => rw [h2 rfl]; exact p3.give s3 r3
        | some d =>
          obtain ⟨v, e, rv⟩ := h1 d rfl
          rw [e]
          exact p3.give s3 rv
      · exact p3.elim
    · exact p1.elim
def eGet1 (f g : SE) : SE := fun env S => (f env S).bind fun x S1 => if isDic S1 x = true then (g env S1).bind fun k S2 => match lookD S2 x k with
  | some o => .ok (o.getD .non) S2
  | none => .stuck else .stuck
theorem j_get1 (hh : PE X e (tDGet1 (tE X.K tg E f) (tE X.K tg E g))) : JE X tg E e (eGet1 f g) :=
  pe_weak hh fun σ H Q ⟨W, S, env, hW, s, ev, p⟩ => by
    subst hW
    refine tE.mk s ev ((Post.bind p).imp ?_)
    rintro x H1 ⟨W1, d1, S1, rfl, l1, s1, r1, p1⟩
    split at p1
    · rename_i hd
      obtain ⟨a, rfl, hD⟩ := isDic_ok s1 r1 hd
      refine ⟨a, rfl, hD, tE.mk s1 (ev.le l1) ((Post.bind p1).imp ?_)⟩
      rintro y H2 ⟨W2, d2, S2, rfl, l2, s2, r2, p3⟩
      split at p3
      · rename_i o ho
        obtain ⟨a', ov, ea, _, g1, h1, h2⟩ := lookD_ok s2 (r1.le l2) r2 ho
        cases ea
        refine ⟨ov, g1, ?_⟩
        cases o with
        | none => rw [h2 rfl]; exact p3.give s2 rfl
        | some d =>
          obtain ⟨v, e, rv⟩ := h1 d rfl
          rw [e]
          exact p3.give s2 rv
      · exact p3.elim
    · exact p1.elim
/-- {} -/
def eDNew (fin : D → Store → R D) (c : D) : SE := fun _ S => fin c S
theorem j_dnewK {fin : D → Store → R D} [Fin' fin] (hh : PE X e tDNewK) : JE X tg E e (eDNew fin (.dK [])) :=
  pe_weak hh fun σ H Q ⟨W, S, env, hW, s, ev, p⟩ => by
    subst hW
    exact fun q hq => Fin'.laid (c := .dK []) (o := .dK []) s (show RepK X.K W [] [] from rfl) p hq
theorem j_dnewT {fin : D → Store → R D} [Fin' fin] (hh : PE X e tDNewT) : JE X tg E e (eDNew fin (.dT [])) :=
  pe_weak hh fun σ H Q ⟨W, S, env, hW, s, ev, p⟩ => by
    subst hW
    exact fun q hq => Fin'.laid (c := .dT []) (o := .dT []) s (show RepT X.K W [] [] from rfl) p hq
/-- d[k] = v -/
def sDPut (f g h : SE) : SS := fun env S => (h env S).bindS fun d S1 => (f env S1).bindS fun x S2 => (g env S2).bindS fun k S3 => match putD S3 x k d with
  | some (i, c) => .nx env (S3.set i c)
  | none => .stuck
theorem js_dput (hh : PS X st (L2.sDPut (tE X.K tg E f) (tE X.K tg E g) (tE X.K tg E h))) : JS X tg E st (sDPut f g h) :=
  ps_weak hh fun D σ H ⟨W, S, env, hW, s, ev, p⟩ => by
    subst hW
    refine tE.mk s ev ((Post.bindS (ρ := ρV X.K) p).imp ?_)
    rintro v H1 ⟨W1, d1, S1, rfl, l1, s1, r1, p1⟩
    refine tE.mk s1 (ev.le l1) ((Post.bindS (ρ := ρV X.K) p1).imp ?_)
    rintro x H2 ⟨W2, d2, S2, rfl, l2, s2, r2, p2⟩
    refine tE.mk s2 ((ev.le l1).le l2) ((Post.bindS (ρ := ρV X.K) p2).imp ?_)
    rintro y H3 ⟨W3, d3, S3, rfl, l3, s3, r3, p3⟩
    split at p3
    · rename_i i c hp
      obtain ⟨o, c0, e1, e2, e3, e4, e5⟩ := putD_ok s3 (r2.le l3) r3 ((r1.le l2).le l3) hp
      exact ⟨_, _, e1, e4, p3 (W3.chg i o) σ (Le.put s3 e2 e3) (s3.chg e2 e3 e5) ((((ev.le l1).le l2).le l3).le (Le.put s3 e2 e3))⟩
    · exact p3.elim

/-! ### methods of built-in types -/
def eMt (ck : Store → D → Bool) (k : D → List D → Store → R D) (f : SE) (fa : SA) : SE := fun env S => (f env S).bind fun x S1 => if ck S1 x = true then (fa env S1).bind fun xs S2 => k x xs S2 else .stuck
def eMt0 (ck : Store → D → Bool) (k : D → List D → Store → R D) (f : SE) : SE := fun env S => (f env S).bind fun x S1 => if ck S1 x = true then k x [] S1 else .stuck
def OpM (X : Cx) (tg : Addr) (E : XK) (r : V → List V → Hp → VK → Prop) (k : D → List D → Store → R D) : Prop := ∀ (W : Wd) (S : Store) (dx : D) (ds : List D) (x : V) (vs : List V) (Q : VK), SOk X.K W S → Rep X.K W dx x → RepL X.K W ds vs → Post (ρV X.K) X.K tg E W (k dx ds S) Q → r x vs W.H Q
def TyOk (X : Cx) (T : String) (ck : Store → D → Bool) : Prop := ∀ (W : Wd) (S : Store) (d : D) (v : V), SOk X.K W S → Rep X.K W d v → ck S d = true → tyV X.K T v W.H
theorem j_mt {T : String} {ck : Store → D → Bool} {r : V → List V → Hp → VK → Prop} {k : D → List D → Store → R D} (ty : TyOk X T ck) (hk : OpM X tg E r k) (hh : PE X e (tBM X.K T r (tE X.K tg E f) (tA X.K tg E fa))) : JE X tg E e (eMt ck k f fa) :=
  pe_weak hh fun σ H Q ⟨W, S, env, hW, s, ev, p⟩ => by
    subst hW
    refine tE.mk s ev ((Post.bind p).imp ?_)
    rintro x H1 ⟨W1, d1, S1, rfl, l1, s1, r1, p1⟩
    split at p1
    · rename_i hc
      refine ⟨ty W1 S1 d1 x s1 r1 hc, tA.mk s1 (ev.le l1) ((Post.bind (ρ := ρL X.K) p1).imp ?_)⟩
      rintro xs H2 ⟨W2, ds, S2, rfl, l2, s2, r2, p2⟩
      exact hk W2 S2 d1 ds x xs Q s2 (r1.le l2) r2 p2
    · exact p1.elim
theorem j_mt0 {T : String} {ck : Store → D → Bool} {r : V → List V → Hp → VK → Prop} {k : D → List D → Store → R D} (ty : TyOk X T ck) (hk : OpM X tg E r k) (hh : PE X e (tBM0 X.K T r (tE X.K tg E f))) : JE X tg E e (eMt0 ck k f) :=
  pe_weak hh fun σ H Q ⟨W, S, env, hW, s, ev, p⟩ => by
    subst hW
    refine tE.mk s ev ((Post.bind p).imp ?_)
    rintro x H1 ⟨W1, d1, S1, rfl, l1, s1, r1, p1⟩
    split at p1
    · rename_i hc
      exact ⟨ty W1 S1 d1 x s1 r1 hc, hk W1 S1 d1 [] x [] Q s1 r1 rfl p1⟩
    · exact p1.elim
def ckL (S : Store) (d : D) : Bool := (conL S d).isSome
theorem ty_list : TyOk X "list" ckL := fun W S d v s r h => by
  obtain ⟨ds, e⟩ := Option.isSome_iff_exists.mp h
  obtain ⟨a, vs, rfl, e2, _⟩ := r.con s e
  exact .inl ⟨rfl, vs, .inl (.inl e2)⟩
def ckT (S : Store) (d : D) : Bool := match d with
  | .obj i => match S[i]? with
    | some (.dT _) => true
    | some (.dK _) => true
    | _ => false
  | _ => false
theorem ty_dict : TyOk X "dict" ckT := fun W S d v s r h => by
  unfold ckT at h
  split at h
  · rename_i i
    split at h
    · rename_i kvs e
      obtain ⟨ws, e2, _⟩ := s.ob i _ e
      rw [r.2]
      exact .inr (.inr (.inl ⟨rfl, .inr ⟨ws, e2⟩⟩))
    · rename_i kvs e
      obtain ⟨ws, e2, _⟩ := s.ob i _ e
      rw [r.2]
      exact .inr (.inr (.inl ⟨rfl, .inl ⟨ws, e2⟩⟩))
    · cases h
  · cases h
/-- the list at an object of the store changed by f, which hands d back -/
def onL (S : Store) (x : D) (k : List D → Option (D × List D)) : R D := match x with
  | .obj i => match S[i]? with
    | some (.lst ds) => match k ds with
      | some (d, ds') => .ok d (S.set i (.lst ds'))
      | none => .stuck
    | _ => .stuck
  | _ => .stuck
theorem onL_ok {K : PySem.W.Frag} {W : Wd} {S : Store} {x : D} {v : V} {k : List D → Option (D × List D)} {Q : VK} (s : SOk K W S) (r : Rep K W x v) (p : Post (ρV K) K tg E W (onL S x k) Q) :
    ∃ i ds vs d ds', v = .ref (W.φ i) ∧ S[i]? = some (.lst ds) ∧ W.H (W.φ i) = some (.lst vs) ∧ RepL K W ds vs ∧ k ds = some (d, ds') ∧ Post (ρV K) K tg E W (.ok d (S.set i (.lst ds'))) Q := by
  unfold onL at p
  split at p
  · rename_i i
    split at p
    · rename_i ds e
      split at p
      · rename_i d ds' ek
        obtain ⟨vs, e2, q⟩ := s.ob i _ e
        exact ⟨i, ds, vs, d, ds', r.2, e, e2, q, ek, p⟩
      · exact p.elim
    · exact p.elim
  · exact p.elim
def mtAppend : D → List D → Store → R D := fun x xs S => match xs with
  | [y] => onL S x fun ds => if ds.length < sizeLine then some (.non, ds ++ [y]) else none
  | _ => .stuck
theorem k_append : OpM X tg E rAppend mtAppend := fun W S dx ds x vs Q s rx rl p => by
  unfold mtAppend at p
  split at p
  · rename_i y
    obtain ⟨w', t, rfl, ry, rfl⟩ := rl
    obtain ⟨i, es, us, d, es', rfl, e1, e2, q, ek, p⟩ := onL_ok s rx p
    split at ek
    · rename_i hl
      cases ek
      exact ⟨_, us, w', rfl, rfl, e2, by rw [q.length]; exact hl, p.put (c := .lst es) (o := .lst (us ++ [w'])) s e1 True.intro (RepL.snoc ry q) rfl⟩
    · cases ek
  · exact p.elim
def mtExtend : D → List D → Store → R D := fun x xs S => match xs with
  | [y] => match conL S y with
    | some zs => onL S x fun ds => if ds.length + zs.length ≤ sizeLine then some (.non, ds ++ zs) else none
    | none => .stuck
  | _ => .stuck
theorem k_extend : OpM X tg E rExtend mtExtend := fun W S dx ds x vs Q s rx rl p => by
  unfold mtExtend at p
  split at p
  · rename_i y
    obtain ⟨w', t, rfl, ry, rfl⟩ := rl
    cases ez : conL S y with
    | none => rw [ez] at p; exact p.elim
    | some zs =>
      rw [ez] at p
      obtain ⟨b, ws, rfl, hb, rb⟩ := ry.con s ez
      obtain ⟨i, es, us, d, es', rfl, e1, e2, q, ek, p⟩ := onL_ok s rx p
      split at ek
      · rename_i hl
        cases ek
        exact ⟨_, b, us, ws, rfl, rfl, e2, hb, by rw [q.length, rb.length]; exact hl, p.put (c := .lst es) (o := .lst (us ++ ws)) s e1 True.intro (q.app rb) rfl⟩
      · cases ek
  · exact p.elim
def mtPop : D → List D → Store → R D := fun x xs S => match xs with
  | [] => onL S x fun ds => match ds[ds.length - 1]? with
    | some d => some (d, ds.dropLast)
    | none => none
  | _ => .stuck
theorem k_pop : OpM X tg E rPop mtPop := fun W S dx ds x vs Q s rx rl p => by
  unfold mtPop at p
  split at p
  · obtain rfl := rl
    obtain ⟨i, es, us, d, es', rfl, e1, e2, q, ek, p⟩ := onL_ok s rx p
    split at ek
    · rename_i d' hd
      cases ek
      obtain ⟨v, hv, rv⟩ := q.get hd
      exact ⟨_, us, v, rfl, rfl, e2, by rw [q.length]; exact hv, p.put (c := .lst es) (o := .lst us.dropLast) s e1 True.intro q.dropLast rv⟩
    · cases ek
  · exact p.elim
def mtPopAt : D → List D → Store → R D := fun x xs S => match xs with
  | [.int i] => onL S x fun ds => if -9223372036854775808 ≤ i ∧ i < 9223372036854775808 then (match seqIndex? i ds.length with
    | some k => match ds[k]? with
      | some d => some (d, ds.eraseIdx k)
      | none => none
    | none => none) else none
  | _ => .stuck
theorem k_popAt : OpM X tg E rPopAt mtPopAt := fun W S dx ds x vs Q s rx rl p => by
  unfold mtPopAt at p
  split at p
  · rename_i ix
    obtain ⟨w', t, rfl, ry, rfl⟩ := rl
    obtain ⟨i, es, us, d, es', rfl, e1, e2, q, ek, p⟩ := onL_ok s rx p
    split at ek
    · rename_i hb
      split at ek
      · rename_i kk hk
        split at ek
        · rename_i d' hd
          cases ek
          obtain ⟨v, hv, rv⟩ := q.get hd
          exact ⟨_, us, ix, kk, v, rfl, by rw [show w' = V.int ix from ry], e2, hb.1, hb.2, by rw [q.length]; exact hk, hv, p.put (c := .lst es) (o := .lst (us.eraseIdx kk)) s e1 True.intro (q.erase kk) rv⟩
        · cases ek
      · cases ek
    · cases ek
  · exact p.elim
/-- xs.index(y) of flat things -/
def mtIndex : D → List D → Store → R D := fun x xs S => match xs, conL S x with
  | [y], some ds => if flatD y = true ∧ ds.all flatD = true then (match ds.findIdx? fun z => eqV (toV z) (toV y) with
    | some j => .ok (.int (j : Nat)) S
    | none => .stuck) else .stuck
  | _, _ => .stuck
theorem k_index : OpM X tg E (rIndex X.K) mtIndex := fun W S dx ds x vs Q s rx rl p => by
  unfold mtIndex at p
  split at p
  · rename_i y es e
    obtain ⟨w', t, rfl, ry, rfl⟩ := rl
    split at p
    · rename_i hf
      split at p
      · rename_i j hj
        obtain ⟨a, us, rfl, ha, q⟩ := rx.con s e
        have ev := q.toV hf.2
        have ey := ry.toV hf.1
        subst ev ey
        rw [List.findIdx?_eq_some_iff_getElem] at hj
        obtain ⟨hl, h1, h2⟩ := hj
        refine ⟨a, _, _, j, toV es[j], rfl, rfl, .inl (.inl ha), flat_toV hf.1, flat_toVs hf.2, ?_, h1, fun m z' hm hz => ?_, p.give s rfl⟩
        · rw [List.getElem?_map, List.getElem?_eq_getElem hl]
          rfl
        · have h3 := h2 m hm
          rw [List.getElem?_map, List.getElem?_eq_getElem (by omega)] at hz
          cases hz
          simpa using h3
      · exact p.elim
    · exact p.elim
  · exact p.elim
/-- d.setdefault(k, x), tuple keys -/
def mtSet : D → List D → Store → R D := fun x xs S => match x, xs with
  | .obj i, [k, z] => match S[i]?, keyT k with
    | some (.dT kvs), some kk => if kvs.length < sizeLine then (match lk kvs kk with
      | some d => .ok d S
      | none => .ok z (S.set i (.dT (pt kvs kk z)))) else .stuck
    | _, _ => .stuck
  | _, _ => .stuck
theorem k_set : OpM X tg E rSetT mtSet := fun W S dx ds x vs Q s rx rl p => by
  unfold mtSet at p
  split at p
  · rename_i i k z
    obtain ⟨w1, t, rfl, rk, w2, t2, rfl, rz, rfl⟩ := rl
    split at p
    · rename_i kvs kk e ek
      split at p
      · rename_i hl
        obtain ⟨ws, e2, q⟩ := s.ob i _ e
        obtain ⟨b, rfl, hb, _⟩ := rk.keyT ek
        obtain ⟨q1, q2⟩ := pp_lk (pp_T q) kk
        rw [rx.2]
        refine ⟨_, ws, kk, b, w2, rfl, rfl, e2, hb, by rw [pp_len (pp_T q)]; exact hl, fun v hv => ?_, fun hv => ?_⟩
        · cases el : lk kvs kk with
          | none => rw [q2 el] at hv; cases hv
          | some d =>
            rw [el] at p
            obtain ⟨v', h1, h2⟩ := q1 d el
            rw [h1] at hv
            cases hv
            exact p.give s h2
        · cases el : lk kvs kk with
          | some d =>
            obtain ⟨v', h1, h2⟩ := q1 d el
            rw [h1] at hv
            cases hv
          | none =>
            rw [el] at p
            exact p.put (c := .dT kvs) (o := .dT (putK ws kk w2)) s e True.intro (t_pp (pp_pt (pp_T q) kk rz)) rz
      · exact p.elim
    · exact p.elim
  · exact p.elim
/-- the pairs of a list of pairs with tuple keys -/
def pairsT : List D → Option (List (List L2.Key × D))
  | [] => some []
  | .tup [k, d] :: r => match keyT k, pairsT r with
    | some kk, some t => some ((kk, d) :: t)
    | _, _ => none
  | _ => none
theorem RepL.pairsT {K : PySem.W.Frag} {W : Wd} : ∀ {ds : List D} {vs : List V} {kvs : List (List L2.Key × D)}, RepL K W ds vs → Hx.pairsT ds = some kvs → ∃ (ps : List (Addr × Addr)) (ws : List (List L2.Key × V)), vs = ps.map (fun p => V.ref p.1) ∧ PrsT W.H ps ws ∧ PP K W kvs ws
  | [], vs, kvs, r, h => by
    cases h
    exact ⟨[], [], r, .nil, .nil⟩
  | d :: t, vs, kvs, r, h => by
    obtain ⟨v, ws, rfl, r1, r2⟩ := r
    unfold Hx.pairsT at h
    split at h
    · rename_i heq; cases heq
    · rename_i k d' r' heq
      cases heq
      split at h
      · rename_i kk t' e1 e2
        cases h
        obtain ⟨ps, wss, ev, h1, h2⟩ := RepL.pairsT r2 e2
        obtain ⟨a, us, rfl, ht, v1, u1, rfl, rk, v2, u2, rfl, rd, rfl⟩ := r1
        obtain ⟨b, rfl, hb, _⟩ := rk.keyT e1
        refine ⟨(a, b) :: ps, (kk, v2) :: wss, by rw [ev]; rfl, .cons ⟨ht.1, hb⟩ h1, .cons ⟨rfl, rd⟩ h2⟩
      · cases h
    · cases h
theorem pp_mg {K : PySem.W.Frag} {W : Wd} : ∀ {more acc : List (List L2.Key × D)} {ms as : List (List L2.Key × V)}, PP K W more ms → PP K W acc as → PP K W (mg acc more) (mergeT as ms)
  | _, _, _, _, .nil, h => h
  | _, _, _, _, .cons (a := p) (b := q) f t, h => by
    show PP K W (mg (pt _ p.1 p.2) _) (mergeT (putK _ q.1 q.2) _)
    rw [← f.1]
    exact pp_mg t (pp_pt h p.1 f.2)
/-- dict(pairs with tuple keys) -/
def opDictT (fin : D → Store → R D) : List D → Store → R D := fun xs S => match xs with
  | [x] => match conL S x with
    | some ds => match pairsT ds with
      | some kvs => fin (.dT (mg [] kvs)) S
      | none => .stuck
    | none => .stuck
  | _ => .stuck
theorem k_dictT {fin : D → Store → R D} [Fin' fin] : OpL X tg E (fun xs H Q => ∃ (a : Addr) (ps : List (Addr × Addr)) (kvs : List (List L2.Key × V)), xs = [.ref a] ∧ H a = some (.lst (ps.map fun p => V.ref p.1)) ∧ PrsT H ps kvs ∧
    ∀ p, H p = none → Q (.ref p) (upd H p (.dT (mergeT [] kvs)))) (opDictT fin) := fun W S ds vs Q s rl p => by
  unfold opDictT at p
  split at p
  · rename_i x
    obtain ⟨w1, t, rfl, rx, rfl⟩ := rl
    split at p
    · rename_i es e
      split at p
      · rename_i kvs ek
        obtain ⟨a, us, rfl, ha, q⟩ := rx.con s e
        obtain ⟨ps, ws, rfl, h1, h2⟩ := q.pairsT ek
        exact ⟨a, ps, ws, rfl, ha, h1, fun q hq => Fin'.laid (c := .dT _) (o := .dT _) s (t_pp (pp_mg h2 .nil)) p hq⟩
      · exact p.elim
    · exact p.elim
  · exact p.elim
/-- d.update(pairs with tuple keys) -/
def mtUpdT : D → List D → Store → R D := fun x xs S => match x, xs with
  | .obj i, [y] => match S[i]?, conL S y with
    | some (.dT acc), some ds => match pairsT ds with
      | some kvs => if acc.length + kvs.length ≤ sizeLine then .ok .non (S.set i (.dT (mg acc kvs))) else .stuck
      | none => .stuck
    | _, _ => .stuck
  | _, _ => .stuck
theorem k_updT : OpM X tg E rUpdT mtUpdT := fun W S dx ds x vs Q s rx rl p => by
  unfold mtUpdT at p
  split at p
  · rename_i i y
    obtain ⟨w1, t, rfl, ry, rfl⟩ := rl
    split at p
    · rename_i acc es e ey
      split at p
      · rename_i kvs ek
        split at p
        · rename_i hl
          obtain ⟨as, e2, qa⟩ := s.ob i _ e
          obtain ⟨a, us, rfl, ha, q⟩ := ry.con s ey
          obtain ⟨ps, ws, rfl, h1, h2⟩ := q.pairsT ek
          rw [rx.2]
          exact ⟨_, a, as, ws, ps, rfl, rfl, e2, ha, h1, by rw [pp_len (pp_T qa), pp_len h2]; exact hl, p.put (c := .dT acc) (o := .dT _) s e True.intro (t_pp (pp_mg h2 (pp_T qa))) rfl⟩
        · exact p.elim
      · exact p.elim
    · exact p.elim
  · exact p.elim
end
end Hx
set_option Elab.async false
set_option linter.all false
set_option maxRecDepth 100000
set_option maxHeartbeats 1000000
/-! HxSrc: what loops walk: lists, tuples, the script, ranges, enumerate of any of these. -/
namespace Hx
open PySem PySem.Spec PyProof.Rows L2
open AutoSeq1 (wpAny_loadPart')

/-! ### enumerate of a tuple -/
theorem meets_enumT (l : Addr) (items : Array Value) (n : Nat) (dct : Option Addr) (sl : Array (Option Value)) :
    Meets (Builtin.«enumerate.__new__» ⟨[.type "enumerate", .ref l], []⟩) (fun _ R s => s.heap.get? l = some { cls := .type "tuple", dict := dct, data := .seq items n, slots := sl } ∧
      R (.ok (.ret (.ref (s.heap.push { cls := .type "tuple_iterator", data := .fields #[.ref l, .int 0 0] }).objs.size)))
        { s with heap := (s.heap.push { cls := .type "tuple_iterator", data := .fields #[.ref l, .int 0 0] }).push { cls := .type "enumerate", data := .fields #[.none, .bool false, .ref s.heap.objs.size, rawInt 0, .none, .none] } }) :=
  .of_wp fun prog w A R s h => by
    obtain ⟨hp, g, d, tk, os⟩ := s
    obtain ⟨hl, h⟩ := h
    have hsub := sub_enumerate
    have hL : Heap.IsTuple (Shared.heap ⟨hp, g, d, tk, os⟩) l items := ⟨_, hl, rfl, n, rfl⟩
    wp_walk using wpAny_loadPart' hl
    refine wpAny_stack_any fun st => wpAny_pure ?_
    split
    · rename_i c _ _ _ _ _
      cases (c == Value.type "enumerate")
      · wp_walk using wpAny_loadPart' hl, wpAny_pyIter_tuple hL
        exact ⟨_, rfl, h⟩
      · wp_walk using wpAny_loadPart' hl, wpAny_pyIter_tuple hL
        exact ⟨_, rfl, h⟩
    · wp_walk using wpAny_loadPart' hl, wpAny_pyIter_tuple hL
      exact ⟨_, rfl, h⟩
section
variable {prog : Program} {w : World} {A : Around} {E : Value → Shared → Prop} {s : Shared}
theorem call_enumT {l : Addr} {items : Array Value} {Q : Value → Shared → Prop} (hT : s.heap.IsTuple l items)
    (h : ∀ h', IsEnum h' (s.heap.objs.size + 1) s.heap.objs.size 0 .none → h'.IsTupleIter s.heap.objs.size l 0 → h'.objs.size = s.heap.objs.size + 2 →
      (∀ b o, s.heap.get? b = some o → h'.get? b = some o) → Q (.ref (s.heap.objs.size + 1)) { s with heap := h' }) :
    wpAny (model prog w) A (call (.type "enumerate") [.ref l]) Q E s := by
  obtain ⟨⟨c, dct, dt, sl⟩, hl, hc, n, hd⟩ := hT
  obtain rfl : c = .type "tuple" := hc
  obtain rfl : dt = .seq items n := hd
  refine callType_new F.called_enumerate (by decide) (F.typeCall_enumerate_1 _) (F.newCall_enumerate_1 _) (fun obj => F.args_object_init_2 obj _) F.entry_enumerate_new (meets_enumT l items n dct sl) ⟨hl, ?_⟩
  have e1 : (s.heap.push { cls := .type "tuple_iterator", data := .fields #[.ref l, .int 0 0] }).objs.size = s.heap.objs.size + 1 := Heap.size_push ..
  show _ ∧ _
  rw [e1]
  have en : IsEnum ((s.heap.push { cls := .type "tuple_iterator", data := .fields #[.ref l, .int 0 0] }).push
      { cls := .type "enumerate", data := .fields #[.none, .bool false, .ref s.heap.objs.size, rawInt 0, .none, .none] }) (s.heap.objs.size + 1) s.heap.objs.size 0 .none := by
    have z := Heap.get?_push_size (s.heap.push { cls := .type "tuple_iterator", data := .fields #[.ref l, .int 0 0] })
      (o := { cls := .type "enumerate", data := .fields #[.none, .bool false, .ref s.heap.objs.size, rawInt 0, .none, .none] }) rfl
    rw [e1] at z
    exact z
  exact ⟨⟨_, en, rfl⟩, h _ en ⟨_, Heap.get?_push_of_some _ (Heap.get?_push_size _ rfl), rfl, rfl⟩ (by rw [Heap.size_push, e1]) fun b o x => Heap.get?_push_of_some _ (Heap.get?_push_of_some _ x)⟩
end
section
variable {prog : Program} {w : World} {A : Around} {E : Value → Shared → Prop} {s : Shared}
theorem enum_endT {e it l : Addr} {i : Nat} {items : Array Value} {old : Value} {Q : Option Value → Shared → Prop} (hh : A.handled = none) (he : IsEnum s.heap e it i old) (hit : s.heap.IsTupleIter it l i) (hl : s.heap.IsTuple l items) (hx : items[i]? = none)
    (hQ : ∀ h', Heap.ExtBut it s.heap h' → Q none { s with heap := h' }) : wpAny (model prog w) A (pyNext (.ref e)) Q E s := by
  have ty : s.TypeIs (.ref e) "enumerate" := ⟨_, he, rfl⟩
  unfold pyNext
  refine wpAny_bind (wpAny_attempt (wpAny_callSpecial?_slot (name := Str.ofString "__next__") ty F.slot_enumerate_next
    (wpAny_call_entry F.slot_enumerate_next ty F.entry_enumerate_next ?_ (F.args_enumerate_next_1 _))))
  show wpAny _ _ (field (.ref e) 2 >>= _) _ _ _
  refine wpAny_bind (wpAny_field he rfl (x := .ref it) rfl (wpAny_bind (wpAny_nextOf_tuple_end hh hit hl hx fun h' x ext hx' => ?_)))
  obtain ⟨o, ho, hc⟩ := hx'
  exact wpAny_bind (wpAny_isInstance (T := "StopIteration") (b := true) ⟨o, ho, hc⟩ isSubtype_stop (wpAny_pure (hQ _ ext)))
end
/-- the tuple at a, an item and its number in a new pair -/
def ItE (K : PySem.W.Frag) (a : Addr) : It :=
  ⟨fun i H => ∃ (xs : List V) (x : V), SqT K H a xs ∧ xs[i]? = some x, fun i H v H' => ∃ T x, v = .ref T ∧ H T = none ∧ H' = upd H T (.tup [.int (i : Nat), x]) ∧ ∀ xs, SqT K H a xs → xs[i]? = some x, fun i H => ∃ xs : List V, SqT K H a xs ∧ xs.length ≤ i⟩
theorem turn_enumT {P : Program} {w : World} {K : PySem.W.Frag} {elts : List Expr} {kk : Nat} {tpos : Pos} (a e it : Addr) (hea : a ≠ e) (hia : a ≠ it) :
    Turn P w K (.Tuple elts kk tpos) (ItE K a) [e, it] e (fun i h => (∃ old, IsEnum h e it ((i : Nat) : Int) old) ∧ h.IsTupleIter it a i ∧ e ≠ it) where
  mem := by simp
  obj := fun i h st b hb => by
    obtain ⟨⟨old, he⟩, ⟨o, ho, hc, hd⟩, _⟩ := st
    have z : b = e ∨ b = it := by simpa using hb
    rcases z with rfl | rfl
    · exact ⟨_, he, fun v q => nomatch q⟩
    · exact ⟨o, ho, fun v q => by rw [hd] at q; cases q⟩
  keep := fun i h h' st k => let ⟨⟨old, he⟩, hi, hne⟩ := st; ⟨⟨old, k e (by simp) _ he⟩, hi.at fun o q => k it (by simp) o q, hne⟩
  item := by
    intro X hP hw hK hc i pins s σ H E I hf st hg
    subst hP hw hK
    obtain ⟨⟨old, he⟩, hit, hne⟩ := st
    obtain ⟨xs, x, hq, hx⟩ := hg
    obtain ⟨its, rv, p, hz⟩ := I.tuple hq
    obtain ⟨u, hu, ru⟩ := rv.get hx
    have hel : e < s.heap.objs.size := Heap.lt_size he
    have hil : it < s.heap.objs.size := by
      obtain ⟨_, q, _⟩ := hit
      exact Heap.lt_size q
    have pT : s.heap.IsTuple a its.toArray := p
    have Dr := Draws.tuple (prog := X.prog) (w := X.w) (A := X.A.in1) (I.ok.hd hc) it a hia its.toArray
    have hlt : i < its.toArray.size := by
      have := (List.getElem?_eq_some_iff.mp hu).1
      simpa using this
    refine wpAny_pyNext_enum_itemD Dr he ⟨hit, pT⟩ hlt hne (by simp [hne, Ne.symm hea]) fun x' h' tk hPx ho hSt hT hsz hk => ?_
    have ex : x' = u := by
      rw [List.getElem?_toArray, hu] at hPx
      exact (Option.some.inj hPx).symm
    subst ex
    have hit' := hSt.1
    refine ⟨_, rfl, wpAny_letOwnedTupleGo_enum (s := { s with heap := h', toks := tk + 1 }) ho fun h'' he' sb => ?_⟩
    have hT2 : h''.get? s.heap.objs.size = some { cls := .type "tuple", data := .seq #[.int i tk, x'] } := (sb.2 _ (Nat.ne_of_gt hel)).trans hT
    have new : ObjOk X.prog X.w (upd H s.heap.objs.size (.tup [.int (i : Nat), x])) h'' s.heap.objs.size (.tup [.int (i : Nat), x]) :=
      ⟨by show 2 ≤ sizeLine; decide, [.int i tk, x'], .cons ⟨_, rfl⟩ (.cons ru .nil), ⟨_, hT2, rfl, _, rfl⟩⟩
    have I1 : Inv X pins σ (upd H s.heap.objs.size (.tup [.int (i : Nat), x])) { s with heap := h'', toks := tk + 1 } :=
      I.turnedNew (ch := [e, it]) (fun b ob hb q => (sb.2 b (fun z => hb (by simp [z]))).trans (hk b ob (fun z => hb (by simp [z])) (fun z => hb (by simp [z])) q)) hf (Nat.le_refl _) new
    refine ⟨.ref s.heap.objs.size, _, I1, rfl, ⟨_, x, rfl, I.hok.fresh (Nat.le_refl _), rfl, fun ys hy => by rw [I.tuple_inj hy hq]; exact hx⟩, ⟨⟨x', ?_⟩, hit'.at fun o q => (sb.2 it (Ne.symm hne)).trans q, hne⟩, fun b hb => ?_⟩
    · have e1 : ((i + 1 : Nat) : Int) = (i : Int) + 1 := by omega
      rw [e1]
      exact he'
    · have hb' : b < s.heap.objs.size := by
        have z : b = e ∨ b = it := by simpa using hb
        rcases z with rfl | rfl
        · exact hel
        · exact hil
      rw [upd_ne (Nat.ne_of_lt hb')]
      exact (hf b hb).1
  done := by
    intro X hP hw hK hc i pins s σ H E I hf st hg
    subst hP hw hK
    obtain ⟨⟨old, he⟩, hit, hne⟩ := st
    obtain ⟨xs, hq, hx⟩ := hg
    obtain ⟨its, rv, p, hz⟩ := I.tuple hq
    obtain ⟨f0, f1, f2, f3, f4, f5⟩ := hf it (by simp)
    have hl := rv.length
    have pT : s.heap.IsTuple a its.toArray := p
    exact enum_endT (I.ok.hd hc) he hit pT (by simp; omega) fun h' eb => ⟨rfl, I.turned (t' := s.toks) (fun b o hb q => eb b o hb q) f0 f1 f3 f4 f5⟩
  self := fun A i s Q E st h => let ⟨⟨_, he⟩, _⟩ := st; wpAny_pyIter_enum he h

/-! ### a list or a tuple, walked; enumerate of it -/
section
variable {X : Cx} {tg' : Expr}
def iSeq (K : PySem.W.Frag) (tl : TE) : TI := fun σ H R => tl σ H fun x H1 => ∃ a, x = .ref a ∧ (((∃ xs, SqL K H1 a xs) ∧ R (Itl K a) H1) ∨ ((∃ xs, SqT K H1 a xs) ∧ R (Itt K a) H1))
theorem pi_seq {l : Expr} {tl : TE} (hl : PE X l tl) : PI X tg' l (iSeq X.K tl) := by
  refine ⟨fun pins s σ H R I h => thn (hl.run pins s σ H _ I h) fun v s1 ⟨x, H1, I1, r1, a, e, q1⟩ => ?_⟩
  subst e
  cases r1
  have fp : ∀ b ∈ [s1.heap.objs.size], FpOk X pins H1 b := fun b hb => by
    obtain rfl : b = s1.heap.objs.size := by simpa using hb
    exact I1.fpOk (Nat.le_refl _) (I1.hok.fresh (Nat.le_refl _))
  rcases q1 with ⟨⟨xs, hq⟩, q⟩ | ⟨⟨xs, hq⟩, q⟩
  · obtain ⟨its, rv, p, hz⟩ := I1.list hq
    exact wpAny_pyIter_list p.isList ⟨_, _, _, _, H1, rfl, I1.kept (t' := s1.toks) (fun b o e => Heap.get?_push_of_some _ e), turn_list a _, ⟨_, Heap.get?_push_size _ rfl, rfl, rfl⟩, fp, q⟩
  · obtain ⟨its, rv, p, hz⟩ := I1.tuple hq
    exact wpAny_pyIter_tuple (show s1.heap.IsTuple a its.toArray from p) ⟨_, _, _, _, H1, rfl, I1.kept (t' := s1.toks) (fun b o e => Heap.get?_push_of_some _ e), turn_tuple a _, ⟨_, Heap.get?_push_size _ rfl, rfl, rfl⟩, fp, q⟩
def iEn (K : PySem.W.Frag) (ta : TA) : TI := fun σ H R => ta σ H fun vs H1 => ∃ a, vs = [.ref a] ∧ (((∃ xs, SqL K H1 a xs) ∧ R (Ite K a) H1) ∨ ((∃ xs, SqT K H1 a xs) ∧ R (ItE K a) H1))
theorem pi_en {e : Expr} {ta : TA} {p pos tpos : Pos} {elts : List Expr} {kk : Nat} (hg : Gl X "enumerate") (hm : X.mg "enumerate" = none) (ha : PA X [e] ta) (hs : starEach [e] X.env = [(false, eval e X.env)] := by rfl) :
    PI X (.Tuple elts kk tpos) (.Call (.Name "enumerate" p) [e] [] pos) (iEn X.K ta) := by
  refine ⟨fun pins s σ H R I h => ?_⟩
  refine Call_ (ld_blt I hg hm boot_enumerate (PyProof.Rows.callWith_type1 (thn (ha.run pos pins s σ H _ I h) fun us s1 ⟨vs, H1, I1, r1, q1⟩ => ?_) hs rfl))
  obtain ⟨a, ex, q1⟩ := q1
  subst ex
  obtain ⟨u, rfl, r⟩ := vals1 r1
  cases r
  have fp : ∀ b ∈ [s1.heap.objs.size + 1, s1.heap.objs.size], FpOk X pins H1 b := fun b hb => by
    have e' : b = s1.heap.objs.size + 1 ∨ b = s1.heap.objs.size := by simpa using hb
    have hle : s1.heap.objs.size ≤ b := by omega
    exact I1.fpOk hle (I1.hok.fresh hle)
  rcases q1 with ⟨⟨xs, hq⟩, q⟩ | ⟨⟨xs, hq⟩, q⟩
  · obtain ⟨its, rv, p', hz⟩ := I1.list hq
    refine call_enumerate_list p'.isList fun h' he hit hsz hk => wpAny_pyIter_enum he ?_
    exact ⟨_, _, _, _, H1, rfl, I1.kept (t' := s1.toks) hk, turn_enum a (s1.heap.objs.size + 1) s1.heap.objs.size, ⟨⟨.none, he⟩, hit, Nat.succ_ne_self _⟩, fp, q⟩
  · obtain ⟨its, rv, p', hz⟩ := I1.tuple hq
    have hla : a < s1.heap.objs.size := p'.lt
    refine call_enumT (show s1.heap.IsTuple a its.toArray from p') fun h' he hit hsz hk => wpAny_pyIter_enum he ?_
    exact ⟨_, _, _, _, H1, rfl, I1.kept (t' := s1.toks) hk, turn_enumT a (s1.heap.objs.size + 1) s1.heap.objs.size (Nat.ne_of_lt (Nat.lt_succ_of_lt hla)) (Nat.ne_of_lt hla), ⟨⟨.none, he⟩, hit, Nat.succ_ne_self _⟩, fp, q⟩
end

/-! ### on data -/
section
variable {K : PySem.W.Frag} {W : Wd} {S : Store}
/-- the items of what stands still -/
def stL : D → Option (List D)
  | .lst ds => some ds
  | .tup ds => some ds
  | .scr ns => some (ns.map .int)
  | _ => none
/-- a list or a tuple that stays -/
theorem Rep.st {d : D} {v : V} {ds : List D} (r : Rep K W d v) (h : stL d = some ds) : ∃ a vs, v = .ref a ∧ RepL K W ds vs ∧ ((∀ W', Le W W' → SqL K W'.H a vs) ∨ (∀ W', Le W W' → SqT K W'.H a vs)) := by
  cases d with
  | lst es =>
    cases h
    obtain ⟨a, vs, rfl, t, q⟩ := r
    exact ⟨a, vs, rfl, q, .inl fun W' l => (l.lw.ls _ _ t).sq⟩
  | tup es =>
    cases h
    obtain ⟨a, vs, rfl, t, q⟩ := r
    exact ⟨a, vs, rfl, q, .inr fun W' l => (l.lw.ts _ _ t).sq⟩
  | scr ns =>
    cases h
    obtain ⟨a, rfl, t⟩ := r
    exact ⟨a, _, rfl, RepL.ints ns, .inl fun W' l => (t.le l.lw).sq⟩
  | _ => cases h
/-- the list, the tuple told by such a way is one -/
def OneL (K : PySem.W.Frag) (H : Hp) (a : Addr) (vs : List V) : Prop := ∀ xs, SqL K H a xs → xs = vs
theorem src_list {a : Addr} {ds : List D} {vs : List V} (r : RepL K W ds vs) (h : ∀ W', Le W W' → SqL K W'.H a vs) : SrcOk K (Itl K a) W ds := fun W' S l s i => ⟨fun hi => ⟨vs, h W' l, by rw [r.length]; exact hi⟩, fun d hd => by
  obtain ⟨v, hv, rv⟩ := (r.le l).get hd
  refine ⟨⟨vs, v, h W' l, hv⟩, fun x H' y => ?_⟩
  obtain ⟨rfl, y⟩ := y
  have e := y vs (h W' l)
  rw [hv] at e
  cases e
  exact ⟨W', rfl, Le.refl _, s, rv⟩⟩
theorem src_tup {a : Addr} {ds : List D} {vs : List V} (r : RepL K W ds vs) (h : ∀ W', Le W W' → SqT K W'.H a vs) : SrcOk K (Itt K a) W ds := fun W' S l s i => ⟨fun hi => ⟨vs, h W' l, by rw [r.length]; exact hi⟩, fun d hd => by
  obtain ⟨v, hv, rv⟩ := (r.le l).get hd
  refine ⟨⟨vs, v, h W' l, hv⟩, fun x H' y => ?_⟩
  obtain ⟨rfl, y⟩ := y
  have e := y vs (h W' l)
  rw [hv] at e
  cases e
  exact ⟨W', rfl, Le.refl _, s, rv⟩⟩
def enumD : Nat → List D → List D
  | _, [] => []
  | k, d :: r => .tup [.int (k : Nat), d] :: enumD (k + 1) r
theorem enumD_len : ∀ (k : Nat) (ds : List D), (enumD k ds).length = ds.length
  | _, [] => rfl
  | k, d :: r => by rw [enumD, List.length_cons, List.length_cons, enumD_len (k + 1) r]
theorem enumD_get : ∀ (k : Nat) (ds : List D) (i : Nat) (d : D), (enumD k ds)[i]? = some d → ∃ e, ds[i]? = some e ∧ d = .tup [.int ((k + i : Nat) : Int), e]
  | _, [], i, d, h => by simp [enumD] at h
  | k, a :: r, 0, d, h => by
    simp only [enumD, List.getElem?_cons_zero, Option.some.injEq] at h
    exact ⟨a, rfl, h.symm⟩
  | k, a :: r, i + 1, d, h => by
    simp only [enumD, List.getElem?_cons_succ] at h ⊢
    obtain ⟨e, h1, h2⟩ := enumD_get (k + 1) r i d h
    exact ⟨e, h1, by rw [h2]; congr 4; omega⟩
theorem pair_new {i : Nat} {d : D} {v : V} {T : Addr} (s : SOk K W S) (hT : W.H T = none) (rv : Rep K W d v) : ∃ W'', W''.H = upd W.H T (.tup [.int (i : Nat), v]) ∧ Le W W'' ∧ SOk K W'' S ∧ Rep K W'' (.tup [.int (i : Nat), d]) (.ref T) :=
  ⟨⟨W.φ, W.n, upd W.H T _, W.pr⟩, rfl, Le.laid hT, s.laid hT, T, _, rfl, ⟨upd_same, s.free hT⟩, _, _, rfl, rfl, _, _, rfl, rv.le (Le.laid hT), rfl⟩
theorem src_enumL {a : Addr} {ds : List D} {vs : List V} (r : RepL K W ds vs) (h : ∀ W', Le W W' → SqL K W'.H a vs) : SrcOk K (Ite K a) W (enumD 0 ds) := fun W' S l s i => ⟨fun hi => ⟨vs, h W' l, by rw [r.length]; rw [enumD_len] at hi; exact hi⟩, fun d hd => by
  obtain ⟨e, he, rfl⟩ := enumD_get 0 ds i d hd
  obtain ⟨v, hv, rv⟩ := (r.le l).get he
  refine ⟨⟨vs, v, h W' l, hv⟩, fun x H' y => ?_⟩
  obtain ⟨T, u, rfl, hT, rfl, y⟩ := y
  have e := y vs (h W' l)
  rw [hv] at e
  cases e
  rw [Nat.zero_add]
  exact pair_new s hT rv⟩
theorem src_enumT {a : Addr} {ds : List D} {vs : List V} (r : RepL K W ds vs) (h : ∀ W', Le W W' → SqT K W'.H a vs) : SrcOk K (ItE K a) W (enumD 0 ds) := fun W' S l s i => ⟨fun hi => ⟨vs, h W' l, by rw [r.length]; rw [enumD_len] at hi; exact hi⟩, fun d hd => by
  obtain ⟨e, he, rfl⟩ := enumD_get 0 ds i d hd
  obtain ⟨v, hv, rv⟩ := (r.le l).get he
  refine ⟨⟨vs, v, h W' l, hv⟩, fun x H' y => ?_⟩
  obtain ⟨T, u, rfl, hT, rfl, y⟩ := y
  have e := y vs (h W' l)
  rw [hv] at e
  cases e
  rw [Nat.zero_add]
  exact pair_new s hT rv⟩
def rangeD (lo : Int) (n : Nat) : List D := (List.range n).map fun i => .int (lo + (i : Nat))
theorem src_range (lo : Int) (n : Nat) : SrcOk K (Itr lo n) W (rangeD lo n) := fun W' S l s i => ⟨fun hi => by
  unfold rangeD at hi
  rw [List.length_map, List.length_range] at hi
  exact hi, fun d hd => by
  unfold rangeD at hd
  rw [List.getElem?_map] at hd
  obtain ⟨j, h1, rfl⟩ := Option.map_eq_some_iff.mp hd
  obtain ⟨h2, h3⟩ := List.getElem?_eq_some_iff.mp h1
  rw [List.length_range] at h2
  rw [List.getElem_range] at h3
  subst h3
  refine ⟨h2, fun x H' y => ?_⟩
  obtain ⟨rfl, rfl⟩ := y
  exact ⟨W', rfl, Le.refl _, s, rfl⟩⟩
end
section
variable {X : Cx} {tg : Addr} {E : XK} {te ie : Expr} {f g : SE} {fa : SA}
theorem pi_weak {t t' : TI} (h : PI X te ie t) (i : ∀ σ H R, t' σ H R → t σ H R) : PI X te ie t' := ⟨fun pins s σ H R I q => h.run pins s σ H R I (i σ H R q)⟩
def srcV (f : SE) : SA := fun env S => (f env S).bind fun d S1 => match stL d with
  | some ds => .ok ds S1
  | none => .stuck
theorem ji_seq (h : PI X te ie (iSeq X.K (tE X.K tg E f))) : JI X tg E te ie (srcV f) :=
  pi_weak h fun σ H Rr ⟨W, S, env, hW, s, ev, p⟩ => by
    subst hW
    refine tE.mk s ev ((Post.bind p).imp ?_)
    rintro x H1 ⟨W1, d1, S1, rfl, l1, s1, r1, p1⟩
    split at p1
    · rename_i ds e
      obtain ⟨a, vs, rfl, rl, hh | hh⟩ := r1.st e
      · exact ⟨a, rfl, .inl ⟨⟨vs, hh W1 (Le.refl _)⟩, p1 W1 _ (Le.refl _) s1 (src_list rl hh)⟩⟩
      · exact ⟨a, rfl, .inr ⟨⟨vs, hh W1 (Le.refl _)⟩, p1 W1 _ (Le.refl _) s1 (src_tup rl hh)⟩⟩
    · exact p1.elim
def srcE (f : SE) : SA := fun env S => (f env S).bind fun d S1 => match stL d with
  | some ds => .ok (enumD 0 ds) S1
  | none => .stuck
theorem ji_enum (h : PI X te ie (iEn X.K (tA X.K tg E (aCons f aNil)))) : JI X tg E te ie (srcE f) :=
  pi_weak h fun σ H Rr ⟨W, S, env, hW, s, ev, p⟩ => by
    subst hW
    refine tA.mk s ev ?_
    unfold aCons aNil
    unfold srcE at p
    cases q : f env S with
    | stuck => rw [q] at p; exact p.elim
    | exc x S1 => rw [q] at p; exact p
    | ok d S1 =>
      rw [q] at p
      intro W1 vs l1 s1 r1
      obtain ⟨v, t, rfl, r1, rfl⟩ := r1
      dsimp only [R.bind] at p
      split at p
      · rename_i ds e
        obtain ⟨a, vs, rfl, rl, hh | hh⟩ := r1.st e
        · exact ⟨a, rfl, .inl ⟨⟨vs, hh W1 (Le.refl _)⟩, p W1 _ l1 s1 (src_enumL rl hh)⟩⟩
        · exact ⟨a, rfl, .inr ⟨⟨vs, hh W1 (Le.refl _)⟩, p W1 _ l1 s1 (src_enumT rl hh)⟩⟩
      · exact p.elim
def inR (i : Int) : Bool := decide (-4611686018427387904 ≤ i ∧ i < 4611686018427387904)
def srcR1 (f : SE) : SA := fun env S => (f env S).bind fun d S1 => match d with
  | .int n => if inR n = true then .ok (rangeD 0 n.toNat) S1 else .stuck
  | _ => .stuck
theorem ji_range1 (h : PI X te ie (iRng1 (tA X.K tg E (aCons f aNil)))) : JI X tg E te ie (srcR1 f) :=
  pi_weak h fun σ H Rr ⟨W, S, env, hW, s, ev, p⟩ => by
    subst hW
    refine tA.mk s ev ?_
    unfold aCons aNil
    unfold srcR1 at p
    cases q : f env S with
    | stuck => rw [q] at p; exact p.elim
    | exc x S1 => rw [q] at p; exact p
    | ok d S1 =>
      rw [q] at p
      intro W1 vs l1 s1 r1
      obtain ⟨v, t, rfl, r1, rfl⟩ := r1
      dsimp only [R.bind] at p
      split at p
      · rename_i n
        split at p
        · rename_i hb
          have hb' := of_decide_eq_true hb
          exact ⟨n, by rw [show v = V.int n from r1], hb'.1, hb'.2, p W1 _ l1 s1 (src_range 0 _)⟩
        · exact p.elim
      · exact p.elim
def srcR2 (f g : SE) : SA := fun env S => (f env S).bind fun d S1 => (g env S1).bind fun e S2 => match d, e with
  | .int a, .int b => if inR a = true ∧ inR b = true then .ok (rangeD a (b - a).toNat) S2 else .stuck
  | _, _ => .stuck
theorem ji_range2 (h : PI X te ie (iRng2 (tA X.K tg E (aCons f (aCons g aNil))))) : JI X tg E te ie (srcR2 f g) :=
  pi_weak h fun σ H Rr ⟨W, S, env, hW, s, ev, p⟩ => by
    subst hW
    refine tA.mk s ev ?_
    unfold aCons
    unfold srcR2 at p
    cases q : f env S with
    | stuck => rw [q] at p; exact p.elim
    | exc x S1 => rw [q] at p; exact p
    | ok d S1 =>
      rw [q] at p
      simp only [R.bind_ok] at p ⊢
      cases q2 : g env S1 with
      | stuck => rw [q2] at p; exact p.elim
      | exc x S2 => rw [q2] at p; exact p
      | ok e S2 =>
        rw [q2] at p
        intro W1 vs l1 s1 r1
        obtain ⟨v, t, rfl, r1, v2, t2, rfl, r2, rfl⟩ := r1
        simp only [R.bind_ok] at p
        split at p
        · rename_i a b
          split at p
          · rename_i hb
            have h1 := of_decide_eq_true hb.1
            have h2 := of_decide_eq_true hb.2
            exact ⟨a, b, by rw [show v = V.int a from r1, show v2 = V.int b from r2], ⟨h1.1, h1.2, h2.1, h2.2⟩, p W1 _ l1 s1 (src_range a _)⟩
          · exact p.elim
        · exact p.elim
end
end Hx
set_option Elab.async false
set_option linter.all false
set_option maxRecDepth 100000
set_option maxHeartbeats 1000000
/-! HxSort: sorted(..) of a list of data, of a dict, of any length. -/
namespace Hx
open PySem PySem.Spec PyProof.Rows L2
open PySem.W (EachIs AllAlike Sortable dataLe)

section
variable {β : Type} {fv : β → V}
theorem vals_each : ∀ {bs : List β} {us : List Value}, Vals (bs.map fv) us → EachIs (fun u b => RelV (fv b) u) us bs
  | [], _, r => by cases r; exact .nil
  | b :: bs, _, r => by
    cases r with
    | cons h t => exact .cons h (vals_each t)
theorem each_vals : ∀ {bs : List β} {us : List Value}, EachIs (fun u b => RelV (fv b) u) us bs → Vals (bs.map fv) us
  | _, _, .nil => .nil
  | _, _, .cons h t => .cons h (each_vals t)
end
section
variable {X : Cx} {β : Type} {bs : List β} {fv : β → V} {enc : β → PyData} {pins : List (Addr × Obj)} {s : Shared} {σ : L2.St} {H : Hp} {Q : VK}
theorem each_reads (I : Inv X pins σ H s) (hd : ∀ b ∈ bs, Dp X.K H (fv b) (enc b)) {us : List Value} (e : EachIs (fun u b => RelV (fv b) u) us bs) : EachIs (fun u b => ∃ as, Reads s.heap u (enc b) as) us bs :=
  (PySem.W.each_mem e).mono fun u b ⟨r, m⟩ => Dp.reads I _ _ _ (hd b m) r
theorem sortedL (hu : X.A.units + 64 < cLine) (I : Inv X pins σ H s) {a : Addr} (hl : SqL X.K H a (bs.map fv)) (hd : ∀ b ∈ bs, Dp X.K H (fv b) (enc b)) (hal : AllAlike (bs.map enc)) (hk : Sortable (bs.map enc)) (hdp : ∀ b ∈ bs, (enc b).depth ≤ 32)
    (q : ∀ p, H p = none → Q (.ref p) (upd H p (.lst ((bs.mergeSort (dataLe false enc)).map fv)))) :
    wpAny (model X.prog X.w) X.A (call (.builtin "sorted") [.ref a]) (EP X pins σ Q) X.xe s := by
  obtain ⟨its, r, pl, hz⟩ := I.list hl
  have e := vals_each r
  rw [List.length_map] at hz
  refine PySem.W.sorted_data (s := s) (vs := its) (bs := bs) (enc := enc) pl.isList e (each_reads I hd e) hal hk hz (fun b hb => by have := hdp b hb; omega) fun out ho eo => ?_
  obtain ⟨c, hc⟩ := PyProof.Rows.sortedAll_at s.heap its out.toArray
  have hs1 : s.heap.objs.size ≤ s.heap.objs.size + 1 := Nat.le_succ _
  refine ⟨.ref (s.heap.objs.size + 1), upd H (s.heap.objs.size + 1) (.lst ((bs.mergeSort (dataLe false enc)).map fv)), I.laid (t' := s.toks) (fun b o z => PyProof.Rows.sortedAll_old z) hs1 ?_, rfl, q _ (I.hok.fresh hs1)⟩
  exact ⟨by rw [List.length_map, List.length_mergeSort]; exact hz, out, c, each_vals eo, hc⟩
theorem sortedSrc {T : String} {r d : Addr} {n : Nat} {P : Nat → Value → Prop} {OK : Heap → Prop} (Ks : PySem.W.KdlSrc X.prog X.w T r d n P OK) (hcalm : X.calm = true) (hok : OK s.heap) (hn : n ≤ sizeLine) (hu : X.A.units + 64 < cLine) (I : Inv X pins σ H s)
    (hkeys : ∀ acc : Array Value, ItemsOf P acc n → Vals (bs.map fv) acc.toList) (hd : ∀ b ∈ bs, Dp X.K H (fv b) (enc b)) (hal : AllAlike (bs.map enc)) (hk : Sortable (bs.map enc)) (hdp : ∀ b ∈ bs, (enc b).depth ≤ 32)
    (q : ∀ p, H p = none → Q (.ref p) (upd H p (.lst ((bs.mergeSort (dataLe false enc)).map fv)))) :
    wpAny (model X.prog X.w) X.A (call (.builtin "sorted") [.ref r]) (EP X pins σ Q) X.xe s := by
  refine Calls.call_function_entry PyProof.Rows.kind_sorted PyProof.Rows.plain_sorted PyProof.Rows.entry_sorted (PyProof.Rows.args_sorted1 _) ?_
  unfold Builtin.«sorted»
  refine wpAny_bind (m := checkCount "sorted" 1 1 _) (wpAny_pure ?_)
  refine wpAny_bind (PySem.W.kdu_collect (A := X.A.in1) Ks (I.ok.hd hcalm) hok hn fun h' tk acc hkp hacc => ?_)
  have rv := hkeys acc hacc
  have e := vals_each rv
  have hal2 : acc.toList.length = bs.length := e.length
  have hz : bs.length ≤ sizeLine := by rw [← hal2, Array.length_toList, hacc.1]; exact hn
  have I1 : Inv X pins σ H { s with heap := h', toks := tk } := I.kept hkp
  refine wpAny_bind (wpAny_newList ?_ (by rw [hal2]; exact hz))
  have hoL : (h'.push (seqObj "list" acc.toList.toArray 0)).get? h'.objs.size = some (seqObj "list" acc.toList.toArray 0) := Heap.get?_push_size _ rfl
  show wpAny _ _ _ _ _ { s with heap := h'.push (seqObj "list" acc.toList.toArray 0), toks := tk }
  have er : EachIs (fun v b => ∃ as, Reads (PySem.W.sortingHeap (h'.push (seqObj "list" acc.toList.toArray 0)) h'.objs.size acc.toList) v (enc b) as) acc.toList bs :=
    (each_reads I1 hd e).mono fun v b ⟨as, rr⟩ => ⟨as, PyProof.Rows.Reads.keeps (fun b o z => PySem.W.sortingHeap_old (Nat.ne_of_lt (Heap.lt_size z)) (Heap.get?_push_of_some _ z)) rr⟩
  refine wpAny_bind (wpAny_holding (wpAny_call_entry PyProof.Rows.slot_list_sort ⟨_, hoL, rfl⟩ PyProof.Rows.entry_list_sort
    (PySem.W.list_sort_vals (A := X.A.in1.in1) (s := { s with heap := h'.push (seqObj "list" acc.toList.toArray 0), toks := tk }) hoL
      (PySem.W.SortsAt.data (s := { s with heap := PySem.W.sortingHeap (h'.push (seqObj "list" acc.toList.toArray 0)) h'.objs.size acc.toList, toks := tk }) (PySem.W.each_map (R := fun v d => ∃ as, Reads _ v d as) enc er) hal hk
        (PySem.W.bound_map fun b hb => by have := hdp b hb; have hq : X.A.in1.in1.units = X.A.units + 2 := rfl; omega)) (by rw [hal2]; exact hz) ⟨_, rfl, ?_⟩) (PyProof.Rows.args_list_sort _)))
  have eo := PySem.W.sortVals_data (h' := PySem.W.sortingHeap (h'.push (seqObj "list" acc.toList.toArray 0)) h'.objs.size acc.toList) false e er hal
  generalize PySem.W.sortVals _ false acc.toList acc.toList = out at eo ⊢
  obtain ⟨e', he'⟩ := PyProof.Rows.sortedHeap_at (vs := acc.toList) (out := out.toArray) hoL
  refine wpAny_pure ⟨_, rfl, .ref h'.objs.size, upd H h'.objs.size (.lst ((bs.mergeSort (dataLe false enc)).map fv)), I1.laid (t' := tk) (fun b u z => ?_) (Nat.le_refl _)
    (show ObjOk X.prog X.w _ _ _ (.lst _) from ⟨by rw [List.length_map, List.length_mergeSort]; exact hz, out, e', each_vals eo, he'⟩), rfl, q _ (I1.hok.fresh (Nat.le_refl _))⟩
  have hb : b < h'.objs.size := Heap.lt_size z
  rw [PyProof.Rows.sortedHeap_old (Nat.ne_of_lt hb) (by rw [size_push']; exact Nat.lt_succ_of_lt hb)]
  exact Heap.get?_push_of_some _ z
end
section
variable {X : Cx}
def keyPy : L2.Key → PyData
  | .inl i => .int i
  | .inr x => .str x
theorem kV_dp {K : PySem.W.Frag} {H : Hp} : ∀ k : L2.Key, Dp K H (kV k) (keyPy k)
  | .inl i => .int i
  | .inr x => .str x
theorem kVs_dp {K : PySem.W.Frag} {H : Hp} : ∀ ks : List L2.Key, DpAll K H (ks.map kV) (ks.map keyPy)
  | [] => .nil
  | k :: r => .cons (kV_dp k) (kVs_dp r)
structure SortOk (ds : List PyData) : Prop where
  al : AllAlike ds
  so : Sortable ds
  dp : ∀ d ∈ ds, d.depth ≤ 32
def rSortL (K : PySem.W.Frag) : List V → Hp → VK → Prop := fun xs H Q => ∃ (a : Addr) (ys : List (V × PyData)), xs = [.ref a] ∧ SqL K H a (ys.map (·.1)) ∧ (∀ b ∈ ys, Dp K H b.1 b.2) ∧ SortOk (ys.map (·.2)) ∧
  ∀ p, H p = none → Q (.ref p) (upd H p (.lst ((ys.mergeSort (dataLe false (·.2))).map (·.1))))
theorem call_sortL (hu : X.A.units + 64 < cLine) : CallR X (.builtin "sorted") (rSortL X.K) := by
  intro pins s σ H xs us Q I r ⟨a, ys, ex, hl, hd, ok, q⟩
  subst ex
  obtain ⟨u, rfl, rx⟩ := r.one
  obtain rfl : u = .ref a := rx
  exact sortedL hu I hl hd ok.al ok.so (fun b hb => ok.dp _ (List.mem_map_of_mem hb)) q
def rSortK : List V → Hp → VK → Prop := fun xs H Q => ∃ (a : Addr) (kvs : List (L2.Key × V)), xs = [.ref a] ∧ Rd H a (.dK kvs) ∧ SortOk (kvs.map (keyPy ·.1)) ∧
  ∀ p, H p = none → Q (.ref p) (upd H p (.lst ((kvs.mergeSort (dataLe false (keyPy ·.1))).map (kV ·.1))))
theorem call_sortK (hc : X.calm = true) (hu : X.A.units + 64 < cLine) : CallR X (.builtin "sorted") rSortK := by
  intro pins s σ H xs us Q I r ⟨a, kvs, ex, hd, ok, q⟩
  subst ex
  obtain ⟨u, rfl, rx⟩ := r.one
  obtain rfl : u = .ref a := rx
  obtain ⟨z, lo, vs, rel, dd⟩ := dk_rd I.hok hd
  obtain ⟨ep, hat⟩ := dd.dictAt
  have hkeys : vs.map (·.1) = kvs.map (·.1) := rel.keys.symm
  have hl : vs.length = kvs.length := by
    have e := congrArg List.length hkeys
    rw [List.length_map, List.length_map] at e
    exact e
  refine sortedSrc (bs := kvs) (fv := fun kv => kV kv.1) (enc := fun kv => keyPy kv.1) (PySem.W.kdl_dict (knd := mixKind X.prog X.w) (kvs := vs) (ep := ep) lo) hc hat (by rw [hl]; exact z) hu I (fun acc hacc => ?_) (fun b _ => kV_dp _) ok.al ok.so (fun b hb => ok.dp _ (List.mem_map_of_mem hb)) q
  have hal : acc.toList.length = kvs.length := by rw [Array.length_toList, hacc.1, hl]
  have e1 : kvs.map (fun kv => kV kv.1) = (List.range acc.toList.length).map fun j => match kvs[j]? with
      | some kv => kV kv.1
      | none => .non := by
    apply List.ext_getElem?
    intro j
    rw [List.getElem?_map, List.getElem?_map]
    by_cases hj : j < kvs.length
    · rw [List.getElem?_range (by omega), List.getElem?_eq_getElem hj]
      simp [List.getElem?_eq_getElem hj]
    · rw [List.getElem?_eq_none (by omega), List.getElem?_eq_none (by rw [List.length_range]; omega)]
      rfl
  rw [e1]
  refine vals_of_get _ _ fun j u e => ?_
  obtain ⟨k, x, e2, e3⟩ := hacc.2 j u (by rw [← Array.getElem?_toList]; exact e)
  have e4 : (vs.map (·.1))[j]? = some k := by rw [List.getElem?_map, e2]; rfl
  rw [hkeys, List.getElem?_map] at e4
  cases e5 : kvs[j]? with
  | none => rw [e5] at e4; cases e4
  | some kv =>
    rw [e5] at e4
    have e6 : kv.1 = k := Option.some.inj e4
    show RelV (kV kv.1) u
    rw [e6]
    rcases keyIs_shape (show keyIs k u = true from e3) with ⟨i, t, ek, ev⟩ | ⟨y, t, ek, ev⟩
    · rw [ek, ev]
      exact ⟨t, rfl⟩
    · rw [ek, ev]
      exact ⟨t, rfl⟩
def rSortT : List V → Hp → VK → Prop := fun xs H Q => ∃ (a : Addr) (kvs : List (List L2.Key × V)), xs = [.ref a] ∧ Rd H a (.dT kvs) ∧ SortOk (kvs.map fun kv => .tuple (kv.1.map keyPy)) ∧
  ∀ p (bs : List (Addr × List L2.Key)), H p = none → (∀ b ∈ bs, H b.1 = some (.tup (b.2.map kV))) → bs.map (·.2) = kvs.map (·.1) → Q (.ref p) (upd H p (.lst ((bs.mergeSort (dataLe false fun b => .tuple (b.2.map keyPy))).map fun b => .ref b.1)))
theorem call_sortT (hc : X.calm = true) (hu : X.A.units + 64 < cLine) : CallR X (.builtin "sorted") rSortT := by
  intro pins s σ H xs us Q I r ⟨a, kvs, ex, hd, ok, q⟩
  subst ex
  obtain ⟨u, rfl, rx⟩ := r.one
  obtain rfl : u = .ref a := rx
  obtain ⟨z, hs, ks, pr, o, es, ep, ho, hx, hdt, he, hn⟩ := (show ObjOk X.prog X.w H s.heap a (.dT kvs) from hd.ok I.hok)
  have l1 : es.size = ks.length := size_of_entries he
  have l2 : kvs.length = ks.length := Paired.length pr
  have ek : ks.map (fun x => x.1) = kvs.map (·.1) := by
    clear q ok z hd ho hx hdt he hn l1 l2
    induction pr with
    | nil => rfl
    | cons h t ih => rw [List.map_cons, List.map_cons, ih, h.1]
  have et : ∀ x ∈ ks, H x.2.1 = some (.tup (x.1.map kV)) := by
    clear q ok z hd ho hx hdt he hn l1 l2 ek
    induction pr with
    | nil => intro x hx; cases hx
    | cons h t ih =>
      intro x hx
      rcases List.mem_cons.mp hx with rfl | hx
      · rw [← h.1]; exact h.2.1
      · exact ih x hx
  have ok' : SortOk ((ks.map fun x => (x.2.1, x.1)).map fun b => PyData.tuple (b.2.map keyPy)) := by
    have e0 : ((ks.map fun x => (x.2.1, x.1)).map fun b => PyData.tuple (b.2.map keyPy)) = kvs.map fun kv => PyData.tuple (kv.1.map keyPy) := by
      have := congrArg (List.map fun k => PyData.tuple (k.map keyPy)) ek
      rw [List.map_map, List.map_map] at this
      rw [List.map_map]
      exact this
    rw [e0]
    exact ok
  refine sortedSrc (bs := ks.map fun x => (x.2.1, x.1)) (fv := fun b => .ref b.1) (enc := fun b => .tuple (b.2.map keyPy)) (kdl_raw hs hx hdt) hc ho (by omega) hu I (fun acc hacc => ?_) (fun b hb => ?_) ok'.al ok'.so (fun b hb => ok'.dp _ (List.mem_map.mpr ⟨b, hb, rfl⟩)) fun p hp => q p _ hp (fun b hb => ?_) ?_
  · have ea : acc.toList = ks.map fun x => Value.ref x.2.1 := by
      have hl : acc.toList.length = ks.length := by rw [Array.length_toList, hacc.1]; exact l1
      apply List.ext_getElem?
      intro j
      rw [List.getElem?_map]
      cases hj : acc.toList[j]? with
      | none =>
        have h1 := List.getElem?_eq_none_iff.mp hj
        rw [List.getElem?_eq_none (by omega)]
        rfl
      | some v =>
        obtain ⟨en, hen, hv⟩ := hacc.2 j v (by rw [← Array.getElem?_toList]; exact hj)
        have qe := entry_at he j
        rw [hen] at qe
        cases hb : ks[j]? with
        | none =>
          rw [hb] at qe
          exact nomatch (show some en = none from qe)
        | some b =>
          rw [hb] at qe
          have e2 : en = entryOfKey (tupleKind (mixKind X.prog X.w)) b := Option.some.inj qe
          rw [hv, e2]
          rfl
    rw [ea, List.map_map]
    have eb : ks.map (fun x => Value.ref x.2.1) = (ks.map fun x => x.2.1).map Value.ref := by rw [List.map_map]; rfl
    have ec : ks.map ((fun b : Addr × List L2.Key => V.ref b.1) ∘ fun x => (x.2.1, x.1)) = (ks.map fun x => x.2.1).map V.ref := by rw [List.map_map]; rfl
    rw [eb, ec]
    exact vals_refs _
  · obtain ⟨x, hx, rfl⟩ := List.mem_map.mp hb
    exact .tup (.inl (.inl (et x hx))) (kVs_dp _)
  · obtain ⟨x, hx, rfl⟩ := List.mem_map.mp hb
    exact et x hx
  · rw [List.map_map]
    exact ek

/-! ### on data -/
def dPy (S : Store) (d : D) : PyData := (toPy S d).getD .none
def sortOkB (ps : List PyData) : Bool := (ps.all fun p => ps.all fun q => PySem.W.alike p q) && ((ps.all fun p => match p with
  | .tuple (_ :: _) => true
  | _ => false) || (ps.all fun p => match p with
  | .none => false
  | .tuple _ => false
  | _ => true)) && ps.all fun p => decide (p.depth ≤ 32)
theorem SortOk.of {ps : List PyData} (h : sortOkB ps = true) : SortOk ps := by
  unfold sortOkB at h
  simp only [Bool.and_eq_true, Bool.or_eq_true, List.all_eq_true, decide_eq_true_eq] at h
  obtain ⟨⟨h1, h2⟩, h3⟩ := h
  refine ⟨fun d hd e he => h1 d hd e he, ?_, h3⟩
  rcases h2 with h2 | h2
  · refine .inl fun d hd => ?_
    have z := h2 d hd
    split at z
    · exact ⟨_, _, rfl⟩
    · cases z
  · refine .inr fun d hd => ?_
    have z := h2 d hd
    split at z
    · cases z
    · cases z
    · rename_i a b
      exact ⟨a, b⟩
/-- what a dict's walk gives -/
def keysD (S : Store) (x : D) : Option (List D) := match dicK S x with
  | some kvs => some (kvs.map fun kv => ofKey kv.1)
  | none => match dicT S x with
    | some kvs => some (kvs.map fun kv => .tup (kv.1.map ofKey))
    | none => none
def sortD (S : Store) (ds : List D) : List D := ds.mergeSort (dataLe false (dPy S))
def opSorted (fin : D → Store → R D) : List D → Store → R D := fun xs S => match xs with
  | [x] => match (match conL S x with
    | some ds => some ds
    | none => keysD S x) with
    | some ds => if (ds.all fun d => (toPy S d).isSome) = true ∧ sortOkB (ds.map (dPy S)) = true then fin (.lst (sortD S ds)) S else .stuck
    | none => .stuck
  | _ => .stuck
theorem pyG_key (g : Nat → Option PyData) : ∀ k : L2.Key, pyG g (ofKey k) = some (keyPy k)
  | .inl _ => rfl
  | .inr _ => rfl
theorem pyL_keys (g : Nat → Option PyData) : ∀ ks : List L2.Key, pyL g (ks.map ofKey) = some (ks.map keyPy)
  | [] => rfl
  | k :: r => by
    show (match pyG g (ofKey k), pyL g (r.map ofKey) with
      | some x, some y => some (x :: y)
      | _, _ => none) = _
    rw [pyG_key, pyL_keys g r]
    rfl
theorem map_sort {α β : Type} (f : α → β) (r : α → α → Bool) (s : β → β → Bool) (l : List α) (h : ∀ a ∈ l, ∀ b ∈ l, r a b = s (f a) (f b)) : (l.mergeSort r).map f = (l.map f).mergeSort s := List.map_mergeSort h
theorem dataLe_map {α β : Type} (f : α → β) (k : β → PyData) (k' : α → PyData) (h : ∀ a, k' a = k (f a)) (l : List α) : (l.mergeSort (dataLe false k')).map f = (l.map f).mergeSort (dataLe false k) :=
  map_sort f _ _ l fun a _ b _ => by
    rw [PySem.W.dataLe_eq, PySem.W.dataLe_eq]
    dsimp only
    rw [h a, h b]
theorem RepL.of_map {K : PySem.W.Frag} {W : Wd} {α : Type} (f : α → D) (g : α → V) : ∀ {l : List α}, (∀ a ∈ l, Rep K W (f a) (g a)) → RepL K W (l.map f) (l.map g)
  | [], _ => rfl
  | a :: r, h => ⟨g a, r.map g, rfl, h a List.mem_cons_self, RepL.of_map f g fun b hb => h b (List.mem_cons_of_mem _ hb)⟩
theorem RepL.zip {K : PySem.W.Frag} {W : Wd} : ∀ {ds : List D} {vs : List V}, RepL K W ds vs → (ds.zip vs).map (·.1) = ds ∧ (ds.zip vs).map (·.2) = vs ∧ ∀ p ∈ ds.zip vs, Rep K W p.1 p.2
  | [], _, h => by
    obtain rfl := h
    exact ⟨rfl, rfl, fun p hp => by cases hp⟩
  | d :: r, _, h => by
    obtain ⟨v, t, rfl, h1, h2⟩ := h
    obtain ⟨a, b, c⟩ := RepL.zip h2
    refine ⟨by rw [List.zip_cons_cons, List.map_cons, a], by rw [List.zip_cons_cons, List.map_cons, b], fun p hp => ?_⟩
    rw [List.zip_cons_cons] at hp
    rcases List.mem_cons.mp hp with rfl | hp
    · exact h1
    · exact c p hp
def rSorted (K : PySem.W.Frag) : List V → Hp → VK → Prop := fun xs H Q => rSortL K xs H Q ∨ rSortK xs H Q ∨ rSortT xs H Q
theorem call_sortX (hc : X.calm = true) (hu : X.A.units + 64 < cLine) : CallR X (.builtin "sorted") (rSorted X.K) := (call_sortL hu).or ((call_sortK hc hu).or (call_sortT hc hu))
theorem k_sorted {tg : Addr} {E : XK} {fin : D → Store → R D} [Fin' fin] : OpL X tg E (rSorted X.K) (opSorted fin) := fun W S ds vs Q s rl p => by
  unfold opSorted at p
  split at p
  · rename_i x
    obtain ⟨v, t, rfl, rx, rfl⟩ := rl
    cases e1 : conL S x with
    | some ds =>
      rw [e1] at p
      dsimp only at p
      split at p
      · rename_i hh
        obtain ⟨hs, ho⟩ := hh
        obtain ⟨a, ws, rfl, h1, r⟩ := Rep.con s rx e1
        obtain ⟨z1, z2, z3⟩ := r.zip
        refine .inl ⟨a, (ds.zip ws).map fun q => (q.2, dPy S q.1), rfl, ?_, ?_, ?_, fun q hq => ?_⟩
        · rw [List.map_map]
          show SqL X.K W.H a ((ds.zip ws).map (·.2))
          rw [z2]
          exact .inl (.inl h1)
        · intro b hb
          obtain ⟨q, hq, rfl⟩ := List.mem_map.mp hb
          have hq1 : q.1 ∈ ds := (List.of_mem_zip hq).1
          have hi := List.all_eq_true.mp hs q.1 hq1
          obtain ⟨p0, ep⟩ := Option.isSome_iff_exists.mp hi
          have : dPy S q.1 = p0 := by unfold dPy; rw [ep]; rfl
          show Dp X.K W.H q.2 (dPy S q.1)
          rw [this]
          exact Rep.dp s (z3 q hq) ep
        · rw [List.map_map]
          show SortOk ((ds.zip ws).map fun q => dPy S q.1)
          have : (ds.zip ws).map (fun q => dPy S q.1) = ds.map (dPy S) := by
            conv => rhs; rw [← z1]
            rw [List.map_map]
            rfl
          rw [this]
          exact SortOk.of ho
        · have e2 : (((ds.zip ws).map fun q => (q.2, dPy S q.1)).mergeSort (dataLe false (·.2))).map (·.1) = ((ds.zip ws).mergeSort (dataLe false fun q => dPy S q.1)).map (·.2) := by
            rw [← dataLe_map (fun q : D × V => (q.2, dPy S q.1)) (·.2) (fun q => dPy S q.1) (fun _ => rfl), List.map_map]
            rfl
          have e3 : sortD S ds = ((ds.zip ws).mergeSort (dataLe false fun q => dPy S q.1)).map (·.1) := by
            rw [dataLe_map (·.1) (dPy S) (fun q : D × V => dPy S q.1) (fun _ => rfl), z1]
            rfl
          rw [e2]
          rw [e3] at p
          exact Fin'.laid (c := .lst _) (o := .lst _) s (RepL.of_map _ _ fun q hq => z3 q (List.mem_mergeSort.mp hq)) p hq
      · exact p.elim
    | none =>
      rw [e1] at p
      dsimp only at p
      unfold keysD at p
      cases e2 : dicK S x with
      | some kvs =>
        rw [e2] at p
        dsimp only at p
        split at p
        · rename_i hh
          obtain ⟨hs, ho⟩ := hh
          obtain ⟨a, ws, rfl, h1, r⟩ := Rep.dicK s rx e2
          have ek : ws.map (·.1) = kvs.map (·.1) := by
            clear p hs ho e2 e1 rx h1
            induction r with
            | nil => rfl
            | cons h t ih => rw [List.map_cons, List.map_cons, ih, h.1]
          have ek1 : kvs.map (fun kv => ofKey kv.1) = ws.map fun kv => ofKey kv.1 := by
            have := congrArg (List.map ofKey) ek
            rw [List.map_map, List.map_map] at this
            exact this.symm
          rw [ek1] at ho p
          have eP : ∀ k : L2.Key, dPy S (ofKey k) = keyPy k := fun k => by
            unfold dPy toPy
            rw [pyG_key]
            rfl
          refine .inr (.inl ⟨a, ws, rfl, h1, ?_, fun q hq => ?_⟩)
          · have : ws.map (fun kv => keyPy kv.1) = (ws.map fun kv => ofKey kv.1).map (dPy S) := by
              rw [List.map_map]
              exact List.map_congr_left fun kv _ => (eP kv.1).symm
            rw [this]
            exact SortOk.of ho
          · have e3 : sortD S (ws.map fun kv => ofKey kv.1) = (ws.mergeSort (dataLe false fun kv => keyPy kv.1)).map fun kv => ofKey kv.1 := by
              rw [dataLe_map (fun kv : L2.Key × V => ofKey kv.1) (dPy S) (fun kv => keyPy kv.1) (fun kv => (eP kv.1).symm)]
              rfl
            rw [e3] at p
            exact Fin'.laid (c := .lst _) (o := .lst _) s (RepL.of_map _ _ fun kv _ => by
              cases kv.1 with
              | inl i => exact rfl
              | inr y => exact rfl) p hq
        · exact p.elim
      | none =>
        rw [e2] at p
        dsimp only at p
        cases e3 : dicT S x with
        | none => rw [e3] at p; exact p.elim
        | some kvs =>
          rw [e3] at p
          dsimp only at p
          split at p
          · rename_i hh
            obtain ⟨hs, ho⟩ := hh
            obtain ⟨a, ws, rfl, h1, r⟩ := Rep.dicT s rx e3
            have ek : ws.map (·.1) = kvs.map (·.1) := by
              clear p hs ho e2 e3 e1 rx h1
              induction r with
              | nil => rfl
              | cons h t ih => rw [List.map_cons, List.map_cons, ih, h.1]
            have eP : ∀ ks : List L2.Key, dPy S (.tup (ks.map ofKey)) = .tuple (ks.map keyPy) := fun ks => by
              have e9 : toPy S (.tup (ks.map ofKey)) = (pyL (pyO S 3) (ks.map ofKey)).map .tuple := by
                unfold toPy
                rw [pyG]
              unfold dPy
              rw [e9, pyL_keys]
              rfl
            refine .inr (.inr ⟨a, ws, rfl, h1, ?_, fun q bs hq hb hbs => ?_⟩)
            · have : ws.map (fun kv => PyData.tuple (kv.1.map keyPy)) = (kvs.map fun kv => D.tup (kv.1.map ofKey)).map (dPy S) := by
                have := congrArg (List.map fun ks => PyData.tuple (ks.map keyPy)) ek
                rw [List.map_map, List.map_map] at this
                rw [List.map_map]
                exact this.trans (List.map_congr_left fun kv _ => (eP kv.1).symm)
              rw [this]
              exact SortOk.of ho
            · have e4 : sortD S (kvs.map fun kv => .tup (kv.1.map ofKey)) = (bs.mergeSort (dataLe false fun b => .tuple (b.2.map keyPy))).map fun b => .tup (b.2.map ofKey) := by
                rw [dataLe_map (fun b : Addr × List L2.Key => D.tup (b.2.map ofKey)) (dPy S) (fun b => .tuple (b.2.map keyPy)) (fun b => (eP b.2).symm)]
                have := congrArg (List.map fun ks => D.tup (ks.map ofKey)) (hbs.trans ek)
                rw [List.map_map, List.map_map] at this
                unfold sortD
                rw [show (bs.map fun b => D.tup (b.2.map ofKey)) = kvs.map fun kv => D.tup (kv.1.map ofKey) from this]
              rw [e4] at p
              exact Fin'.laid (c := .lst _) (o := .lst _) s (RepL.of_map (fun b : Addr × List L2.Key => D.tup (b.2.map ofKey)) (fun b => .ref b.1) fun b hbm => ⟨b.1, b.2.map kV, rfl, ⟨hb b (List.mem_mergeSort.mp hbm), SOk.tup s (hb b (List.mem_mergeSort.mp hbm))⟩, by
                have : ∀ ks : List L2.Key, RepL X.K W (ks.map ofKey) (ks.map kV) := fun ks => RepL.of_map _ _ fun k _ => by
                  cases k with
                  | inl i => exact rfl
                  | inr y => exact rfl
                exact this _⟩) p hq
          · exact p.elim
  · exact p.elim
end
end Hx
set_option Elab.async false
set_option linter.all false
set_option maxRecDepth 100000
set_option maxHeartbeats 1000000
/-! HxBi: the builtins len, int, bool, abs, max, min, tuple, list on data. -/
namespace Hx
open PySem PySem.Spec PyProof.Rows L2
section
variable {X : Cx} {tg : Addr} {E : XK}
def biLen : List D → Store → R D := fun xs S => match xs with
  | [.str x] => if x.length ≤ sizeLine then .ok (.int x.length) S else .stuck
  | [x] => match seqL S x with
    | some ds => .ok (.int ds.length) S
    | none => .stuck
  | _ => .stuck
theorem k_len : OpL X tg E (fun xs H Q => ∃ x n, xs = [x] ∧ LenV X.K x H n ∧ Q (.int n) H) biLen := fun W S ds vs Q s rl p => by
  unfold biLen at p
  split at p
  · rename_i x
    obtain ⟨v, t, rfl, rx, rfl⟩ := rl
    obtain rfl : v = V.str x := rx
    split at p
    · rename_i h
      exact ⟨_, _, rfl, ⟨h, rfl⟩, p.give s rfl⟩
    · exact p.elim
  · rename_i x _
    obtain ⟨v, t, rfl, rx, rfl⟩ := rl
    cases e : seqL S x with
    | none => rw [e] at p; exact p.elim
    | some ds =>
      rw [e] at p
      obtain ⟨a, ws, rfl, h, r⟩ := rx.seq s e
      refine ⟨.ref a, ws.length, rfl, ?_, ?_⟩
      · rcases h with h | h
        · exact .inl ⟨ws, h, rfl⟩
        · exact .inr ⟨ws, h, rfl⟩
      · rw [r.length]
        exact p.give s rfl
  · exact p.elim
def biInt : List D → Store → R D := fun xs S => match xs with
  | [.int i] => .ok (.int i) S
  | [.bl b] => .ok (.int (if b then 1 else 0)) S
  | _ => .stuck
theorem k_int1 : OpL X tg E (fun xs H Q => (∃ i, xs = [.int i] ∧ Q (.int i) H) ∨ ∃ k, xs = [.bl k] ∧ Q (.int (if k then 1 else 0)) H) biInt := fun W S ds vs Q s rl p => by
  unfold biInt at p
  split at p
  · obtain ⟨v, t, rfl, rx, rfl⟩ := rl
    exact .inl ⟨_, by rw [show v = V.int _ from rx], p.give s rfl⟩
  · obtain ⟨v, t, rfl, rx, rfl⟩ := rl
    exact .inr ⟨_, by rw [show v = V.bl _ from rx], p.give s rfl⟩
  · exact p.elim
def biBool : List D → Store → R D := fun xs S => match xs with
  | [.int i] => .ok (.bl (i != 0)) S
  | [.bl b] => .ok (.bl b) S
  | _ => .stuck
theorem k_bool1 : OpL X tg E (fun xs H Q => (∃ i, xs = [.int i] ∧ Q (.bl (i != 0)) H) ∨ ∃ k, xs = [.bl k] ∧ Q (.bl k) H) biBool := fun W S ds vs Q s rl p => by
  unfold biBool at p
  split at p
  · obtain ⟨v, t, rfl, rx, rfl⟩ := rl
    exact .inl ⟨_, by rw [show v = V.int _ from rx], p.give s rfl⟩
  · obtain ⟨v, t, rfl, rx, rfl⟩ := rl
    exact .inr ⟨_, by rw [show v = V.bl _ from rx], p.give s rfl⟩
  · exact p.elim
def biAbs : List D → Store → R D := fun xs S => match xs with
  | [.int i] => .ok (.int (if i < 0 then -i else i)) S
  | _ => .stuck
theorem k_abs : OpL X tg E (fun xs H Q => ∃ i, xs = [.int i] ∧ Q (.int (if i < 0 then -i else i)) H) biAbs := fun W S ds vs Q s rl p => by
  unfold biAbs at p
  split at p
  · obtain ⟨v, t, rfl, rx, rfl⟩ := rl
    exact ⟨_, by rw [show v = V.int _ from rx], p.give s rfl⟩
  · exact p.elim
def bi2 (g : Int → Int → Int) : List D → Store → R D := fun xs S => match xs with
  | [.int i, .int j] => .ok (.int (g i j)) S
  | _ => .stuck
def biMax : List D → Store → R D := bi2 fun i j => if j > i then j else i
def biMin : List D → Store → R D := bi2 fun i j => if j < i then j else i
theorem k_bi2 {g : Int → Int → Int} : OpL X tg E (fun xs H Q => ∃ i j, xs = [.int i, .int j] ∧ Q (.int (g i j)) H) (bi2 g) := fun W S ds vs Q s rl p => by
  unfold bi2 at p
  split at p
  · obtain ⟨v, t, rfl, rx, v2, t2, rfl, ry, rfl⟩ := rl
    exact ⟨_, _, by rw [show v = V.int _ from rx, show v2 = V.int _ from ry], p.give s rfl⟩
  · exact p.elim
theorem k_max : OpL X tg E (fun xs H Q => ∃ i j, xs = [.int i, .int j] ∧ Q (.int (if j > i then j else i)) H) biMax := k_bi2
theorem k_min : OpL X tg E (fun xs H Q => ∃ i j, xs = [.int i, .int j] ∧ Q (.int (if j < i then j else i)) H) biMin := k_bi2
def biTuple : List D → Store → R D := fun xs S => match xs with
  | [.tup ds] => .ok (.tup ds) S
  | [x] => match seqL S x with
    | some ds => .ok (.tup ds) S
    | none => .stuck
  | _ => .stuck
theorem k_tuple : OpL X tg E (fun xs H Q => ∃ p ys, xs = [.ref p] ∧ ((SqL X.K H p ys ∧ ∀ l, H l = none → Q (.ref l) (upd H l (.tup ys))) ∨ (SqT X.K H p ys ∧ Q (.ref p) H))) biTuple := fun W S ds vs Q s rl p => by
  unfold biTuple at p
  split at p
  · obtain ⟨v, t, rfl, rx, rfl⟩ := rl
    obtain ⟨a, ws, rfl, h, r⟩ := rx
    exact ⟨a, ws, rfl, .inr ⟨h.sq, p.give s ⟨a, ws, rfl, h, r⟩⟩⟩
  · rename_i x hx
    obtain ⟨v, t, rfl, rx, rfl⟩ := rl
    cases e : seqL S x with
    | none => rw [e] at p; exact p.elim
    | some es =>
      rw [e] at p
      cases x with
      | tup zs => exact absurd rfl (hx zs)
      | scr ns =>
        cases e
        obtain ⟨a, rfl, t⟩ := rx
        exact ⟨a, _, rfl, .inl ⟨t.sq, fun q hq => Post.newTup s (RepL.ints ns) p hq⟩⟩
      | lst zs =>
        obtain ⟨a, ws, rfl, h, r⟩ := Rep.con s rx e
        exact ⟨a, ws, rfl, .inl ⟨.inl (.inl h), fun q hq => Post.newTup s r p hq⟩⟩
      | obj i =>
        obtain ⟨a, ws, rfl, h, r⟩ := Rep.con s rx e
        exact ⟨a, ws, rfl, .inl ⟨.inl (.inl h), fun q hq => Post.newTup s r p hq⟩⟩
      | _ => cases e
  · exact p.elim
/-- list(x) of a list, a tuple -/
def biList (fin : D → Store → R D) : List D → Store → R D := fun xs S => match xs with
  | [x] => match seqL S x with
    | some ds => fin (.lst ds) S
    | none => match dicT S x with
      | some kvs => fin (.lst (kvs.map fun kv => .tup (kv.1.map ofKey))) S
      | none => .stuck
  | _ => .stuck
def rList (K : PySem.W.Frag) : List V → Hp → VK → Prop := fun xs H Q => (∃ p ys, xs = [.ref p] ∧ (SqL K H p ys ∨ SqT K H p ys) ∧ ∀ l, H l = none → Q (.ref l) (upd H l (.lst ys))) ∨
  ∃ d kvs, xs = [V.ref d] ∧ Rd H d (.dT kvs) ∧ ∀ p bs, H p = none → IsKeys H kvs bs → Q (.ref p) (upd H p (.lst (bs.map V.ref)))
theorem call_listX (hc : X.calm = true) : CallR X (.type "list") (rList X.K) := call_list_of.or (call_list_dT hc)
theorem RepL.keys {K : PySem.W.Frag} {W : Wd} : ∀ ks : List L2.Key, RepL K W (ks.map ofKey) (ks.map kV) := fun ks => RepL.of_map _ _ fun k _ => by
  cases k with
  | inl i => exact rfl
  | inr y => exact rfl
theorem pp_keys {K : PySem.W.Frag} {W : Wd} {S : Store} (s : SOk K W S) {kvs : List (List L2.Key × D)} {ws : List (List L2.Key × V)} (r : PP K W kvs ws) : ∀ {bs : List Addr}, IsKeys W.H ws bs → RepL K W (kvs.map fun kv => .tup (kv.1.map ofKey)) (bs.map V.ref) := by
  induction r with
  | nil =>
    intro bs hb
    cases hb
    exact rfl
  | cons h t ih =>
    intro bs hb
    cases hb with
    | cons h1 t1 =>
      refine ⟨_, _, rfl, ⟨_, _, rfl, ⟨h1, SOk.tup s h1⟩, ?_⟩, ih t1⟩
      rw [h.1]
      exact RepL.keys _
theorem k_list {fin : D → Store → R D} [Fin' fin] : OpL X tg E (rList X.K) (biList fin) := fun W S ds vs Q s rl p => by
  unfold biList at p
  split at p
  · rename_i x
    obtain ⟨v, t, rfl, rx, rfl⟩ := rl
    cases e : seqL S x with
    | some es =>
      rw [e] at p
      obtain ⟨a, ws, rfl, h, r⟩ := rx.seq s e
      exact .inl ⟨a, ws, rfl, h, fun q hq => Fin'.laid (c := .lst _) (o := .lst _) s r p hq⟩
    | none =>
      rw [e] at p
      dsimp only at p
      cases e2 : dicT S x with
      | none => rw [e2] at p; exact p.elim
      | some kvs =>
        rw [e2] at p
        obtain ⟨a, ws, rfl, h, r⟩ := Rep.dicT s rx e2
        exact .inr ⟨a, ws, rfl, h, fun q bs hq hb => Fin'.laid (c := .lst _) (o := .lst _) s (pp_keys s r hb) p hq⟩
  · exact p.elim
end
end Hx
set_option Elab.async false
set_option linter.all false
set_option maxRecDepth 100000
set_option maxHeartbeats 1000000
/-! HxWalk: blocks whose objects are told as they are from then on; walks over dicts. -/
namespace Hx
open PySem PySem.Spec PyProof.Rows L2

/-! ### the first statements of a block: what they have made is changed no more -/
section
variable {X : Cx} {tg : Addr} {E : XK}
inductive Pre (X : Cx) (tg : Addr) (E : XK) : List Stmt → SS → Prop
  | nil : Pre X tg E [] sNil
  | cons {st : Stmt} {f : SS} {r : List Stmt} {g : SS} : JS X tg E st f → Pre X tg E r g → Pre X tg E (st :: r) (sSeq f g)
theorem tS_seq {f g : SS} {D : Ends} {σ : L2.St} {H : Hp} (h : tS X.K tg E (sSeq f g) D σ H) : tS X.K tg E f { D with nx := fun σ H => tS X.K tg E g D σ H } σ H := by
  obtain ⟨W, S, env, hW, s, ev, p⟩ := h
  subst hW
  refine tS.mk s ev ?_
  unfold sSeq at p
  cases q : f env S with
  | nx env1 S1 =>
    rw [q] at p
    exact fun W' σ' l' s' ev' => tS.mk s' ev' (p.le l')
  | bk env1 S1 => rw [q] at p; exact p
  | ct env1 S1 => rw [q] at p; exact p
  | rt d S1 => rw [q] at p; exact p
  | exc x S1 => rw [q] at p; exact p
  | stuck => rw [q] at p; exact p
theorem Pre.app {pre rest : List Stmt} {f : SS} {tr : TS} (hp : Pre X tg E pre f) (hr : PSs X rest tr) : PSs X (pre ++ rest) (fun D σ H => tS X.K tg E f { D with nx := tr D } σ H) := by
  induction hp with
  | nil =>
    refine pss_weak hr fun D σ H ⟨W, S, env, hW, s, ev, p⟩ => ?_
    subst hW
    exact p W σ (Le.refl W) s ev
  | cons h1 h2 ih => exact pss_weak (pss_cons h1 ih) (fun D σ H h => tS_seq h)
theorem jb_scoped {pre rest : List Stmt} {f g : SS} (hp : Pre X tg E pre f) (hr : JB X tg E rest g) : JB X tg E (pre ++ rest) (sSeq (sScope f) g) :=
  pss_weak (hp.app hr) fun D σ H h => by
    obtain ⟨W, S, env, hW, s, ev, p⟩ := h
    subst hW
    refine tS.mk s ev (PostS.uncut s ?_)
    unfold sSeq at p
    unfold sScope at p
    cases q : cutS S (f env S) with
    | nx env1 S1 =>
      rw [q] at p
      exact fun W' σ' l' s' ev' => tS.mk s' ev' (p.le l')
    | bk env1 S1 => rw [q] at p; exact p
    | ct env1 S1 => rw [q] at p; exact p
    | rt d S1 => rw [q] at p; exact p
    | exc x S1 => rw [q] at p; exact p
    | stuck => rw [q] at p; exact p
end

/-! ### a dict that is locked for good -/
section
variable {K : PySem.W.Frag} {W : Wd} {S : Store}
/-- the dict at d, locked -/
abbrev Wd.lock (W : Wd) (d : Addr) (o : HO) : Wd := ⟨W.φ, W.n, upd W.H d o, W.pr⟩
theorem Le.lock {d : Addr} {o : HO} {ob : Obj} (h : W.H d = some o) (hb : Fb o) : Le W (W.lock d (.frz ob o)) where
  le := Nat.le_refl _
  agree := fun _ _ => rfl
  pr1 := fun _ h => h
  pr2 := fun _ h => .inl h
  keep := fun a u hu hf => by
    by_cases e : a = d
    · subst e
      rw [h] at hu
      cases hu
      exact .inr ⟨hb, ob, upd_same⟩
    · exact .inl (by show upd W.H d _ a = _; rw [upd_ne e]; exact hu)
  dom := fun a ha => by
    by_cases e : a = d
    · subst e
      show upd W.H a _ a ≠ none
      rw [upd_same]
      simp
    · show upd W.H d _ a ≠ none
      rw [upd_ne e]
      exact ha
  new := fun i a b => absurd b (Nat.not_lt.mpr a)
theorem SOk.lock (s : SOk K W S) {d : Addr} {o : HO} {ob : Obj} (h : W.H d = some o) (hb : Fb o) (hf : Free W d) : SOk K (W.lock d (.frz ob o)) S where
  len := s.len
  inj := s.inj
  prs := fun a ha => by
    obtain ⟨⟨u, eu, c⟩, z⟩ := s.prs a ha
    refine ⟨⟨u, ?_, c⟩, z⟩
    show upd W.H d _ a = _
    rw [upd_ne (fun e => hf.2 (by rw [← e]; exact ha))]
    exact eu
  ob := fun i c e => by
    have hi : i < W.n := by
      rw [← s.len]
      exact (List.getElem?_eq_some_iff.mp e).1
    exact Ob.le (Le.lock h hb) (upd_ne fun z => hf.1 i hi z) (s.ob i c e)
end

/-! ### d.values(), d.items() of a locked dict with tuple keys -/
section
variable {X : Cx} {pins : List (Addr × Obj)} {σ : L2.St} {H : Hp} {s : Shared} {d : Addr} {o : Obj}
theorem frzT2 {kvs : List (List L2.Key × V)} (I : Inv X pins σ H s) (h : H d = some (.frz o (.dT kvs))) :
    (d == sysModules) = false ∧ s.heap.get? d = some o ∧ o.ExactDict ∧ ∃ (es : Array DictEntry) (ep : Nat), o.data = .dict es ep ∧ es.size = kvs.length ∧
      ∀ (i : Nat) (k : List L2.Key) (v : V), kvs[i]? = some (k, v) → ∃ (en : DictEntry) (q : Addr), es[i]? = some en ∧ en.key = .ref q ∧ H q = some (.tup (k.map kV)) ∧ RelV v en.val := by
  obtain ⟨hd, z, hs, xs, pr, o', es, ep, ho, hx, hdt, he, _⟩ := I.hok d _ h
  rw [hd] at ho
  cases ho
  refine ⟨hs, hd, hx, es, ep, hdt, ?_, fun i k v e => ?_⟩
  · have l1 : es.size = xs.length := size_of_entries he
    have l2 : kvs.length = xs.length := Paired.length pr
    omega
  · obtain ⟨b, hb, e1, e2, e3⟩ := paired_get pr e
    have q := entry_at he i
    rw [hb] at q
    exact ⟨_, b.2.1, q, rfl, e2, e3⟩
end
/-- the values -/
def ItdT (d : Addr) (o : Obj) (kvs : List (List L2.Key × V)) : It :=
  ⟨fun i H => H d = some (.frz o (.dT kvs)) ∧ i < kvs.length, fun i H x H' => H' = H ∧ ∃ k, kvs[i]? = some (k, x), fun i H => H d = some (.frz o (.dT kvs)) ∧ kvs.length ≤ i⟩
/-- the pairs, each a new tuple -/
def ItiT (d : Addr) (o : Obj) (kvs : List (List L2.Key × V)) : It :=
  ⟨fun i H => H d = some (.frz o (.dT kvs)) ∧ i < kvs.length, fun i H x H' => ∃ T k v q, kvs[i]? = some (k, v) ∧ x = .ref T ∧ H T = none ∧ H q = some (.tup (k.map kV)) ∧ H' = upd H T (.tup [.ref q, v]), fun i H => H d = some (.frz o (.dT kvs)) ∧ kvs.length ≤ i⟩
section
variable {P : Program} {w : World} {K : PySem.W.Frag} {tg : Expr} {d : Addr} {o : Obj} {es : Array DictEntry} {ep : Nat} {kvs : List (List L2.Key × V)}
theorem turn_valsT (it : Addr) (hod : o.data = .dict es ep) : Turn P w K tg (ItdT d o kvs) [it] it (fun i h => h.IsValIter it d i kvs.length ep) where
  mem := by simp
  obj := fun i h st b hb => by
    have e : b = it := by simpa using hb
    subst e
    obtain ⟨oi, e, c, dd⟩ := st
    exact ⟨oi, e, fun v z => by rw [dd] at z; cases z⟩
  keep := fun i h h' st k => st.at fun oi e => k it (by simp) oi e
  item := by
    intro X hP hw hK hc i pins s σ H E I hf st hg
    subst hP hw hK
    obtain ⟨hd, hi⟩ := hg
    obtain ⟨f0, f1, f2, f3, f4, f5⟩ := hf it (by simp)
    obtain ⟨hs, hgd, hx, es', ep', hdt, hsz, ent⟩ := frzT2 I hd
    obtain ⟨rfl, rfl⟩ := dict_ep hod hdt
    obtain ⟨⟨k, v⟩, hkv⟩ : ∃ p, kvs[i]? = some p := ⟨kvs[i], List.getElem?_eq_getElem hi⟩
    obtain ⟨en, q, hen, hkey, hq, ru⟩ := ent i k v hkv
    rw [← hsz] at st
    have hlt : i < es'.size := by omega
    refine PySem.wpAny_pyNext_values_item_raw st ⟨o, hgd, hx, hod⟩ hlt fun h' st' sb => ?_
    have I1 : Inv X pins σ H { s with heap := h' } := I.turned (t' := s.toks) (fun b ob hb e => (sb.2 b hb).trans e) f0 f1 f3 f4 f5
    obtain ⟨oi, e, c, dd⟩ := id st'
    rw [Array.getElem?_eq_getElem hlt] at hen
    have een : es'[i] = en := Option.some.inj hen
    rw [← een] at ru
    refine ⟨es'[i].val, rfl, go_of (s := { s with heap := h' }) e c dd (by decide) ⟨v, H, I1, ru, ⟨rfl, k, hkv⟩, ?_, fun b hb => (hf b hb).1⟩⟩
    show h'.IsValIter it d (i + 1) kvs.length _
    rw [← hsz]
    exact st'
  done := by
    intro X hP hw hK hc i pins s σ H E I hf st hg
    subst hP hw hK
    obtain ⟨hd, hi⟩ := hg
    obtain ⟨f0, f1, f2, f3, f4, f5⟩ := hf it (by simp)
    obtain ⟨hs, hgd, hx, es', ep', hdt, hsz, ent⟩ := frzT2 I hd
    obtain ⟨rfl, rfl⟩ := dict_ep hod hdt
    rw [← hsz] at st
    exact PySem.wpAny_pyNext_values_end_raw (I.ok.hd hc) st ⟨o, hgd, hx, hod⟩ (by omega) fun h' eb => ⟨rfl, I.turned (t' := s.toks) (fun b ob hb e => eb b ob hb e) f0 f1 f3 f4 f5⟩
  self := fun A i s Q E st h => wpAny_pyIter_valiter st h
theorem turn_itemsT {elts : List Expr} {kk : Nat} {tpos : Pos} (it : Addr) (hod : o.data = .dict es ep) :
    Turn P w K (.Tuple elts kk tpos) (ItiT d o kvs) [it] it (fun i h => ∃ ok ov, IsItemIter h it d i kvs.length ep ok ov) where
  mem := by simp
  obj := fun i h st b hb => by
    have e : b = it := by simpa using hb
    subst e
    obtain ⟨ok, ov, e⟩ := st
    exact ⟨_, e, fun v z => nomatch z⟩
  keep := fun i h h' st k => let ⟨ok, ov, e⟩ := st; ⟨ok, ov, k it (by simp) _ e⟩
  item := by
    intro X hP hw hK hc i pins s σ H E I hf st hg
    subst hP hw hK
    obtain ⟨hd, hi⟩ := hg
    obtain ⟨hs, hgd, hx, es', ep', hdt, hsz, ent⟩ := frzT2 I hd
    obtain ⟨rfl, rfl⟩ := dict_ep hod hdt
    obtain ⟨⟨k, v⟩, hkv⟩ : ∃ p, kvs[i]? = some p := ⟨kvs[i], List.getElem?_eq_getElem hi⟩
    obtain ⟨en, q, hen, hkey, hq, ru⟩ := ent i k v hkv
    obtain ⟨ok, ov, he⟩ := st
    rw [← hsz] at he
    have hlt : it < s.heap.objs.size := Heap.lt_size he
    have hlt' : i < es'.size := by omega
    rw [Array.getElem?_eq_getElem hlt'] at hen
    have een : es'[i] = en := Option.some.inj hen
    rw [← een] at ru hkey
    refine PySem.wpAny_pyNext_items_item_raw he ⟨o, hgd, hx, hod⟩ hlt' fun h' ho hT hz hk => ?_
    refine ⟨_, rfl, wpAny_letOwnedTupleGo_items (s := { s with heap := h' }) ho fun h'' he' sb => ?_⟩
    have hT2 : h''.get? s.heap.objs.size = some { cls := .type "tuple", data := .seq #[es'[i].key, es'[i].val] } := (sb.2 _ (Nat.ne_of_gt hlt)).trans hT
    have new : ObjOk X.prog X.w (upd H s.heap.objs.size (.tup [.ref q, v])) h'' s.heap.objs.size (.tup [.ref q, v]) :=
      ⟨by show 2 ≤ sizeLine; decide, [es'[i].key, es'[i].val], .cons hkey (.cons ru .nil), ⟨_, hT2, rfl, _, rfl⟩⟩
    have I1 : Inv X pins σ (upd H s.heap.objs.size (.tup [.ref q, v])) { s with heap := h'' } :=
      I.turnedNew (t' := s.toks) (ch := [it]) (fun b ob hb e => (sb.2 b (by simpa using hb)).trans (hk b ob (by simpa using hb) e)) hf (Nat.le_refl _) new
    refine ⟨.ref s.heap.objs.size, _, I1, rfl, ⟨_, k, v, q, hkv, rfl, I.hok.fresh (Nat.le_refl _), hq, rfl⟩, ⟨es'[i].key, es'[i].val, ?_⟩, fun b hb => ?_⟩
    · rw [← hsz]; exact he'
    · have e : b = it := by simpa using hb
      rw [e, upd_ne (Nat.ne_of_lt hlt)]
      exact (hf it (by simp)).1
  done := by
    intro X hP hw hK hc i pins s σ H E I hf st hg
    subst hP hw hK
    obtain ⟨hd, hi⟩ := hg
    obtain ⟨f0, f1, f2, f3, f4, f5⟩ := hf it (by simp)
    obtain ⟨hs, hgd, hx, es', ep', hdt, hsz, ent⟩ := frzT2 I hd
    obtain ⟨rfl, rfl⟩ := dict_ep hod hdt
    obtain ⟨ok, ov, he⟩ := st
    rw [← hsz] at he
    exact PySem.wpAny_pyNext_items_end_raw (I.ok.hd hc) he ⟨o, hgd, hx, hod⟩ (by omega) fun h' eb => ⟨rfl, I.turned (t' := s.toks) (fun b ob hb e => eb b ob hb e) f0 f1 f3 f4 f5⟩
  self := fun A i s Q E st h => let ⟨_, _, e⟩ := st; PySem.W.kcp_self e h
end

section
variable {X : Cx} {tg e : Expr} {td : TE} {apos cpos : Pos}
/-- a dict's value, locked from here on -/
def tLk (t : TE) : TE := fun σ H Q => t σ H fun x H1 => ∃ d, x = .ref d ∧ ((∃ o, Fb o ∧ H1 d = some o ∧ ∀ ob, Q x (upd H1 d (.frz ob o))) ∨ ∃ ob o, H1 d = some (.frz ob o) ∧ Q x H1)
theorem pe_lk (h : PE X e td) : PE X e (tLk td) := by
  refine ⟨fun pins s σ H Q I q => thn (h.run pins s σ H _ I q) fun v s1 ⟨x, H1, I1, r1, d, e1, q1⟩ => ?_⟩
  subst e1
  rcases q1 with ⟨o, hb, ho, q1⟩ | ⟨ob, o, ho, q1⟩
  · obtain ⟨od, I2⟩ := I1.lock ho (by
      cases o with
      | dK _ => exact True.intro
      | dT _ => exact True.intro
      | _ => exact hb.elim)
    exact ⟨_, _, I2, r1, q1 od⟩
  · exact ⟨_, _, I1, r1, q1⟩
def iValsT (td : TE) : TI := fun σ H R => td σ H fun x H1 => ∃ d o kvs, x = .ref d ∧ H1 d = some (.frz o (.dT kvs)) ∧ R (ItdT d o kvs) H1
def iItemsT (td : TE) : TI := fun σ H R => td σ H fun x H1 => ∃ d o kvs, x = .ref d ∧ H1 d = some (.frz o (.dT kvs)) ∧ R (ItiT d o kvs) H1
theorem pi_valuesT (he : PE X e td) (hbase : attributeBase e "values" X.env (eval e X.env) = eval e X.env := by rfl) (hline : (apos.endLine == cpos.line) = true := by rfl) : PI X tg (.Call (.Attribute e "values" apos) [] [] cpos) (iValsT td) := by
  refine ⟨fun pins s σ H R I h => ?_⟩
  refine wpAny_Call_method (T := "dict") (id := "dict.values") hbase rfl hline F.plainAttrs_dict F.slot_dict_values F.type_dict_values (thn (he.run pins s σ H _ I h) fun u s1 ⟨x, H1, I1, rx, d, o, kvs, ex, hd, q⟩ => ?_)
  subst ex
  obtain rfl : u = Value.ref d := rx
  obtain ⟨hs, hgd, hx, es, ep, hdt, hsz, ent⟩ := frzT2 I1 hd
  have raw : s1.heap.DictRaw d es ep := ⟨o, hgd, hx, hdt⟩
  refine ⟨raw.typeIs, fun a e => ⟨o, by cases e; exact hgd, hx.2.1⟩, ?_⟩
  have I2 : Inv X pins σ H1 { s1 with heap := s1.heap.push { cls := .type "dict_values", data := .fields #[.ref d] } } := I1.kept (t' := s1.toks) fun b ob q => Heap.get?_push_of_some _ q
  have fin : wpAny (model X.prog X.w) X.A (pyIter (.ref s1.heap.objs.size)) (PIE X pins σ tg R) X.xe { s1 with heap := s1.heap.push { cls := .type "dict_values", data := .fields #[.ref d] } } := by
    refine PySem.wpAny_pyIter_values_raw (d := d) (es := es) (ep := ep) ⟨_, Heap.get?_push_size _ rfl, rfl, rfl⟩ (raw.at fun o' z => Heap.get?_push_of_some _ z) (pi_one (tk := s1.toks) I2 _ (turn_valsT _ hdt) ⟨_, Heap.get?_push_size _ rfl, rfl, ?_⟩ q)
    rw [hsz] <;> rfl
  show wpAny _ _ (callWith cpos (.builtin "dict.values") [.ref d] [] []) _ X.xe s1
  exact method_meetsIn F.slot_dict_values F.entry_dict_values rfl (PySem.evalArgs_none ⟨rfl, raw.typeIs, F.args_dict_values_1 _, _, PySem.meets_dict_values_raw d hs, ⟨es, ep, raw⟩, fin⟩)
theorem pi_itemsT {elts : List Expr} {kk : Nat} {tpos : Pos} (he : PE X e td) (hbase : attributeBase e "items" X.env (eval e X.env) = eval e X.env := by rfl) (hline : (apos.endLine == cpos.line) = true := by rfl) :
    PI X (.Tuple elts kk tpos) (.Call (.Attribute e "items" apos) [] [] cpos) (iItemsT td) := by
  refine ⟨fun pins s σ H R I h => ?_⟩
  refine wpAny_Call_method (T := "dict") (id := "dict.items") hbase rfl hline F.plainAttrs_dict F.slot_dict_items F.type_dict_items (thn (he.run pins s σ H _ I h) fun u s1 ⟨x, H1, I1, rx, d, o, kvs, ex, hd, q⟩ => ?_)
  subst ex
  obtain rfl : u = Value.ref d := rx
  obtain ⟨hs, hgd, hx, es, ep, hdt, hsz, ent⟩ := frzT2 I1 hd
  have raw : s1.heap.DictRaw d es ep := ⟨o, hgd, hx, hdt⟩
  refine ⟨raw.typeIs, fun a e => ⟨o, by cases e; exact hgd, hx.2.1⟩, ?_⟩
  have I2 : Inv X pins σ H1 { s1 with heap := s1.heap.push { cls := .type "dict_items", data := .fields #[.ref d] } } := I1.kept (t' := s1.toks) fun b ob q => Heap.get?_push_of_some _ q
  have fin : wpAny (model X.prog X.w) X.A (pyIter (.ref s1.heap.objs.size)) (PIE X pins σ (.Tuple elts kk tpos) R) X.xe { s1 with heap := s1.heap.push { cls := .type "dict_items", data := .fields #[.ref d] } } := by
    refine PySem.wpAny_pyIter_items_raw (d := d) (es := es) (ep := ep) ⟨_, Heap.get?_push_size _ rfl, rfl, rfl⟩ (raw.at fun o' z => Heap.get?_push_of_some _ z) (pi_one (tk := s1.toks) I2 _ (turn_itemsT _ hdt) ⟨.none, .none, ?_⟩ q)
    rw [← hsz]
    exact Heap.get?_push_size _ rfl
  show wpAny _ _ (callWith cpos (.builtin "dict.items") [.ref d] [] []) _ X.xe s1
  exact method_meetsIn F.slot_dict_items F.entry_dict_items rfl (PySem.evalArgs_none ⟨rfl, raw.typeIs, F.args_dict_items_1 _, _, PySem.meets_dict_items_raw d hs, ⟨es, ep, raw⟩, fin⟩)
theorem pi_or {t t' : TI} (h : PI X tg e t) (h' : PI X tg e t') : PI X tg e (fun σ H R => t σ H R ∨ t' σ H R) := ⟨fun pins s σ H R I q => q.elim (h.run pins s σ H R I) (h'.run pins s σ H R I)⟩
end

/-! ### on data -/
section
variable {K : PySem.W.Frag} {W : Wd} {S : Store}
def valsD : D → Option (List D)
  | .dK kvs => some (kvs.map (·.2))
  | .dT kvs => some (kvs.map (·.2))
  | _ => none
def itemsD : D → Option (List D)
  | .dK kvs => some (kvs.map fun kv => .tup [ofKey kv.1, kv.2])
  | .dT kvs => some (kvs.map fun kv => .tup [.tup (kv.1.map ofKey), kv.2])
  | _ => none
theorem frz_keep {W' : Wd} (l : Le W W') {d : Addr} {ob : Obj} {o : HO} (h : W.H d = some (.frz ob o)) : W'.H d = some (.frz ob o) := by
  rcases l.keep d _ h (.inr (.inl True.intro)) with q | ⟨q, _⟩
  · exact q
  · exact q.elim
theorem pp_get {κ : Type} {kvs : List (κ × D)} {ws : List (κ × V)} (r : PP K W kvs ws) : ∀ {i : Nat} {p : κ × D}, kvs[i]? = some p → ∃ v, ws[i]? = some (p.1, v) ∧ Rep K W p.2 v := by
  induction r with
  | nil => intro i p e; simp at e
  | @cons a b l m h t ih =>
    intro i p e
    cases i with
    | zero =>
      simp only [List.getElem?_cons_zero, Option.some.injEq] at e
      subst e
      exact ⟨b.2, by rw [h.1]; rfl, h.2⟩
    | succ i =>
      simp only [List.getElem?_cons_succ] at e ⊢
      exact ih e
theorem src_valsT {d : Addr} {ob : Obj} {kvs : List (List L2.Key × D)} {ws : List (List L2.Key × V)} (h : W.H d = some (.frz ob (.dT ws))) (r : PP K W kvs ws) : SrcOk K (ItdT d ob ws) W (kvs.map (·.2)) := fun W' S l s i => by
  have hl := pp_len r
  refine ⟨fun hi => ⟨frz_keep l h, by rw [List.length_map] at hi; omega⟩, fun c hc => ?_⟩
  rw [List.getElem?_map] at hc
  obtain ⟨p, hp, rfl⟩ := Option.map_eq_some_iff.mp hc
  obtain ⟨v, hv, rv⟩ := pp_get r hp
  refine ⟨⟨frz_keep l h, (List.getElem?_eq_some_iff.mp hv).1⟩, fun x H' y => ?_⟩
  obtain ⟨rfl, k, hk⟩ := y
  rw [hv] at hk
  cases hk
  exact ⟨W', rfl, Le.refl _, s, rv.le l⟩
theorem src_valsK {d : Addr} {ob : Obj} {kvs : List (L2.Key × D)} {ws : List (L2.Key × V)} (h : W.H d = some (.frz ob (.dK ws))) (r : PP K W kvs ws) : SrcOk K (Itd d ob ws) W (kvs.map (·.2)) := fun W' S l s i => by
  have hl := pp_len r
  refine ⟨fun hi => ⟨frz_keep l h, by rw [List.length_map] at hi; omega⟩, fun c hc => ?_⟩
  rw [List.getElem?_map] at hc
  obtain ⟨p, hp, rfl⟩ := Option.map_eq_some_iff.mp hc
  obtain ⟨v, hv, rv⟩ := pp_get r hp
  refine ⟨⟨frz_keep l h, (List.getElem?_eq_some_iff.mp hv).1⟩, fun x H' y => ?_⟩
  obtain ⟨rfl, k, hk⟩ := y
  rw [hv] at hk
  cases hk
  exact ⟨W', rfl, Le.refl _, s, rv.le l⟩
theorem two_new {W' : Wd} {d1 d2 : D} {v1 v2 : V} {T : Addr} (s : SOk K W' S) (hT : W'.H T = none) (r1 : Rep K W' d1 v1) (r2 : Rep K W' d2 v2) : ∃ W'', W''.H = upd W'.H T (.tup [v1, v2]) ∧ Le W' W'' ∧ SOk K W'' S ∧ Rep K W'' (.tup [d1, d2]) (.ref T) :=
  ⟨⟨W'.φ, W'.n, upd W'.H T _, W'.pr⟩, rfl, Le.laid hT, s.laid hT, T, _, rfl, ⟨upd_same, s.free hT⟩, _, _, rfl, r1.le (Le.laid hT), _, _, rfl, r2.le (Le.laid hT), rfl⟩
theorem src_itemsT {d : Addr} {ob : Obj} {kvs : List (List L2.Key × D)} {ws : List (List L2.Key × V)} (h : W.H d = some (.frz ob (.dT ws))) (r : PP K W kvs ws) : SrcOk K (ItiT d ob ws) W (kvs.map fun kv => .tup [.tup (kv.1.map ofKey), kv.2]) := fun W' S l s i => by
  have hl := pp_len r
  refine ⟨fun hi => ⟨frz_keep l h, by rw [List.length_map] at hi; omega⟩, fun c hc => ?_⟩
  rw [List.getElem?_map] at hc
  obtain ⟨p, hp, rfl⟩ := Option.map_eq_some_iff.mp hc
  obtain ⟨v, hv, rv⟩ := pp_get r hp
  refine ⟨⟨frz_keep l h, (List.getElem?_eq_some_iff.mp hv).1⟩, fun x H' y => ?_⟩
  obtain ⟨T, k, u, q, hk, rfl, hT, hq, rfl⟩ := y
  rw [hv] at hk
  cases hk
  exact two_new s hT ⟨q, _, rfl, ⟨hq, SOk.tup s hq⟩, RepL.keys _⟩ (rv.le l)
theorem src_itemsK {d : Addr} {ob : Obj} {kvs : List (L2.Key × D)} {ws : List (L2.Key × V)} (h : W.H d = some (.frz ob (.dK ws))) (r : PP K W kvs ws) : SrcOk K (Iti d ob ws) W (kvs.map fun kv => .tup [ofKey kv.1, kv.2]) := fun W' S l s i => by
  have hl := pp_len r
  refine ⟨fun hi => ⟨frz_keep l h, by rw [List.length_map] at hi; omega⟩, fun c hc => ?_⟩
  rw [List.getElem?_map] at hc
  obtain ⟨p, hp, rfl⟩ := Option.map_eq_some_iff.mp hc
  obtain ⟨v, hv, rv⟩ := pp_get r hp
  refine ⟨⟨frz_keep l h, (List.getElem?_eq_some_iff.mp hv).1⟩, fun x H' y => ?_⟩
  obtain ⟨T, k, u, hk, rfl, hT, rfl⟩ := y
  rw [hv] at hk
  cases hk
  exact two_new s hT (by
    cases p.1 with
    | inl i => exact rfl
    | inr y => exact rfl) (rv.le l)
theorem PP.le {W' : Wd} {κ : Type} (l : Le W W') {kvs : List (κ × D)} {ws : List (κ × V)} (r : PP K W kvs ws) : PP K W' kvs ws := Paired.mapP r fun _ _ z => ⟨z.1, z.2.le l⟩
/-- a dict that is told as it is, locked -/
theorem lock_any {d : Addr} {o : HO} (s : SOk K W S) (hb : Fb o) (h : Rd W.H d o ∧ Free W d) : (W.H d = some o ∧ ∀ ob, Le W (W.lock d (.frz ob o)) ∧ SOk K (W.lock d (.frz ob o)) S) ∨ ∃ ob, W.H d = some (.frz ob o) := by
  obtain ⟨h | ⟨ob, h⟩, f⟩ := h
  · exact .inl ⟨h, fun ob => ⟨Le.lock h hb, s.lock h hb f⟩⟩
  · exact .inr ⟨ob, h⟩
end
section
variable {X : Cx} {tg : Addr} {E : XK} {te e : Expr} {f : SE} {apos cpos : Pos}
def srcVals (f : SE) : SA := fun env S => (f env S).bind fun d S1 => match valsD d with
  | some ds => .ok ds S1
  | none => .stuck
def srcItems (f : SE) : SA := fun env S => (f env S).bind fun d S1 => match itemsD d with
  | some ds => .ok ds S1
  | none => .stuck
theorem ji_values (he : JE X tg E e f) (hbase : attributeBase e "values" X.env (eval e X.env) = eval e X.env := by rfl) (hline : (apos.endLine == cpos.line) = true := by rfl) : JI X tg E te (.Call (.Attribute e "values" apos) [] [] cpos) (srcVals f) :=
  pi_weak (pi_or (pi_values (pe_lk he) hbase hline) (pi_valuesT (pe_lk he) hbase hline)) fun σ H Rr ⟨W, S, env, hW, s, ev, p⟩ => by
    subst hW
    unfold srcVals at p
    have fin : ∀ (Q : VK), (∀ d W1 S1 x, f env S = .ok d S1 → Le W W1 → SOk X.K W1 S1 → Rep X.K W1 d x → Q x W1.H) → tE X.K tg E f σ W.H Q := fun Q hQ => by
      refine tE.mk s ev ?_
      cases q : f env S with
      | stuck => rw [q] at p; exact p.elim
      | exc x S1 => rw [q] at p; exact p
      | ok d S1 => exact fun W1 v l1 s1 r1 => hQ d W1 S1 v q l1 s1 r1
    cases q : f env S with
    | stuck => rw [q] at p; exact p.elim
    | exc x S1 =>
      refine .inl (fin _ fun d W1 S1 x hq => ?_)
      rw [q] at hq
      cases hq
    | ok d S1 =>
      rw [q] at p
      cases d with
      | dK kvs =>
        refine .inl (fin _ fun d W1 S2 x hq l1 s1 r1 => ?_)
        rw [q] at hq
        cases hq
        obtain ⟨a, ws, rfl, hr, r⟩ := r1
        rcases lock_any (o := .dK ws) s1 True.intro hr with ⟨h1, h2⟩ | ⟨ob, h1⟩
        · exact ⟨a, rfl, .inl ⟨.dK ws, True.intro, h1, fun ob => ⟨a, ob, ws, rfl, upd_same, p _ _ (l1.trans (h2 ob).1) (h2 ob).2 (src_valsK upd_same (PP.le (h2 ob).1 (pp_K r)))⟩⟩⟩
        · exact ⟨a, rfl, .inr ⟨ob, _, h1, a, ob, ws, rfl, h1, p _ _ l1 s1 (src_valsK h1 (pp_K r))⟩⟩
      | dT kvs =>
        refine .inr (fin _ fun d W1 S2 x hq l1 s1 r1 => ?_)
        rw [q] at hq
        cases hq
        obtain ⟨a, ws, rfl, hr, r⟩ := r1
        rcases lock_any (o := .dT ws) s1 True.intro hr with ⟨h1, h2⟩ | ⟨ob, h1⟩
        · exact ⟨a, rfl, .inl ⟨.dT ws, True.intro, h1, fun ob => ⟨a, ob, ws, rfl, upd_same, p _ _ (l1.trans (h2 ob).1) (h2 ob).2 (src_valsT upd_same (PP.le (h2 ob).1 (pp_T r)))⟩⟩⟩
        · exact ⟨a, rfl, .inr ⟨ob, _, h1, a, ob, ws, rfl, h1, p _ _ l1 s1 (src_valsT h1 (pp_T r))⟩⟩
      | _ => exact p.elim
theorem ji_items {elts : List Expr} {kk : Nat} {tpos : Pos} (he : JE X tg E e f) (hbase : attributeBase e "items" X.env (eval e X.env) = eval e X.env := by rfl) (hline : (apos.endLine == cpos.line) = true := by rfl) : JI X tg E (.Tuple elts kk tpos) (.Call (.Attribute e "items" apos) [] [] cpos) (srcItems f) :=
  pi_weak (pi_or (pi_items (pe_lk he) hbase hline) (pi_itemsT (pe_lk he) hbase hline)) fun σ H Rr ⟨W, S, env, hW, s, ev, p⟩ => by
    subst hW
    unfold srcItems at p
    have fin : ∀ (Q : VK), (∀ d W1 S1 x, f env S = .ok d S1 → Le W W1 → SOk X.K W1 S1 → Rep X.K W1 d x → Q x W1.H) → tE X.K tg E f σ W.H Q := fun Q hQ => by
      refine tE.mk s ev ?_
      cases q : f env S with
      | stuck => rw [q] at p; exact p.elim
      | exc x S1 => rw [q] at p; exact p
      | ok d S1 => exact fun W1 v l1 s1 r1 => hQ d W1 S1 v q l1 s1 r1
    cases q : f env S with
    | stuck => rw [q] at p; exact p.elim
    | exc x S1 =>
      refine .inl (fin _ fun d W1 S1 x hq => ?_)
      rw [q] at hq
      cases hq
    | ok d S1 =>
      rw [q] at p
      cases d with
      | dK kvs =>
        refine .inl (fin _ fun d W1 S2 x hq l1 s1 r1 => ?_)
        rw [q] at hq
        cases hq
        obtain ⟨a, ws, rfl, hr, r⟩ := r1
        rcases lock_any (o := .dK ws) s1 True.intro hr with ⟨h1, h2⟩ | ⟨ob, h1⟩
        · exact ⟨a, rfl, .inl ⟨.dK ws, True.intro, h1, fun ob => ⟨a, ob, ws, rfl, upd_same, p _ _ (l1.trans (h2 ob).1) (h2 ob).2 (src_itemsK upd_same (PP.le (h2 ob).1 (pp_K r)))⟩⟩⟩
        · exact ⟨a, rfl, .inr ⟨ob, _, h1, a, ob, ws, rfl, h1, p _ _ l1 s1 (src_itemsK h1 (pp_K r))⟩⟩
      | dT kvs =>
        refine .inr (fin _ fun d W1 S2 x hq l1 s1 r1 => ?_)
        rw [q] at hq
        cases hq
        obtain ⟨a, ws, rfl, hr, r⟩ := r1
        rcases lock_any (o := .dT ws) s1 True.intro hr with ⟨h1, h2⟩ | ⟨ob, h1⟩
        · exact ⟨a, rfl, .inl ⟨.dT ws, True.intro, h1, fun ob => ⟨a, ob, ws, rfl, upd_same, p _ _ (l1.trans (h2 ob).1) (h2 ob).2 (src_itemsT upd_same (PP.le (h2 ob).1 (pp_T r)))⟩⟩⟩
        · exact ⟨a, rfl, .inr ⟨ob, _, h1, a, ob, ws, rfl, h1, p _ _ l1 s1 (src_itemsT h1 (pp_T r))⟩⟩
      | _ => exact p.elim
end
end Hx
set_option Elab.async false
set_option linter.all false
set_option maxRecDepth 100000
set_option maxHeartbeats 1000000
/-! HxMul: tuple * int where the tuple itself comes; dict displays. -/
namespace Hx
open PySem PySem.Spec PyProof.Rows L2
open AutoSeq1 (wpAny_loadPart')
theorem tuple_mulS (l : Addr) (items : Array Value) (n : Nat) (x : Int) (u : Tok) (c0 : (decide (x < -(2 ^ 63)) || decide (x ≥ 2 ^ 63)) = false) (c1 : (items.isEmpty || x == 1) = true) :
    Meets (Builtin.«tuple.__mul__» ⟨[.ref l, .int x u], []⟩) (fun _ R s => (∃ o, s.heap.get? l = some o ∧ o.cls = .type "tuple" ∧ o.data = .seq items n) ∧ R (.ok (.ret (Value.ref l))) s) :=
  .of_wp fun prog w A R s h => by
    obtain ⟨hp, g, d, tk, os⟩ := s
    obtain ⟨⟨⟨c, dd, dt, sl⟩, hl, hc, hd⟩, h⟩ := h
    obtain rfl : c = .type "tuple" := hc
    obtain rfl : dt = .seq items n := hd
    have f1 := AutoSeq1.idx_int
    wp_walk using wpAny_loadPart' hl
    repeat (first
      | (refine wpAny_ite_false (decide_eq_false (by rw [c0]; exact Bool.false_ne_true)) ?_; wp_walk using wpAny_loadPart' hl)
      | (refine wpAny_ite_true (decide_eq_true c1) ?_; wp_walk using wpAny_loadPart' hl))
    exact ⟨_, rfl, h⟩
/-- the tuple itself: it is empty, or it is taken once -/
def rRepS (K : PySem.W.Frag) : R2 := fun x y H Q => ∃ l k xs, x = .ref l ∧ y = .int k ∧ SqT K H l xs ∧ -(2 ^ 63) ≤ k ∧ k < 2 ^ 63 ∧ (xs = [] ∨ k = 1) ∧ Q (.ref l) H
section
variable {X : Cx}
theorem op_repS : OpR X (binaryOp .Mult) (rRepS X.K) := by
  intro pins s σ H x y v u Q I rx ry h
  obtain ⟨l, k, xs, rfl, rfl, hT, h1, h2, hz, q⟩ := h
  cases rx
  obtain ⟨t, rfl⟩ := ry
  obtain ⟨its, r, ⟨⟨cls, dd, data, sl⟩, ho, hc, n, hd⟩, hs⟩ := I.tuple hT
  simp only at hc hd
  subst hc hd
  have c0 : (decide (k < -(2 ^ 63)) || decide (k ≥ 2 ^ 63)) = false := by
    rw [decide_eq_false (by omega), decide_eq_false (by omega)] <;> rfl
  have c1 : (its.toArray.isEmpty || k == 1) = true := by
    rcases hz with rfl | rfl
    · have : its = [] := List.eq_nil_of_length_eq_zero r.length.symm
      rw [this]
      rfl
    · rw [Bool.or_eq_true]
      exact .inr rfl
  refine wpAny_binaryOp_repeat_ref (T := "tuple") (U := "int") (by decide) ⟨_, ho, rfl⟩ (fun s' => typeIs_int s' k t) noFill_tuple_mul F.fills_int_mul F.slot_int_rmul repeat_tuple F.slot_int_index.lookup
    (call_meets F.slot_int_rmul (typeIs_int s k t) F.entry_int_rmul (F.args_int_rmul_2 _ _) (int_rmul_tuple k t l its.toArray n dd sl)
      ⟨ho, rfl, ⟨_, ho, rfl⟩, call_meets F.slot_tuple_mul ⟨_, ho, rfl⟩ F.entry_tuple_mul (F.args_tuple_mul_2 _ _) (tuple_mulS l its.toArray n k t c0 c1) ⟨⟨_, ho, rfl, rfl⟩, ?_⟩⟩)
  exact ⟨.ref l, H, I, rfl, q⟩
variable {tg : Addr} {E : XK}
def opMulX (fin : D → Store → R D) : D → D → Store → R D := fun x y S => match x, y with
  | .tup a, .int k => if -(2 ^ 63) ≤ k ∧ k < 2 ^ 63 ∧ (a = [] ∨ k = 1) then .ok (.tup a) S else opMul fin (.tup a) (.int k) S
  | x, y => opMul fin x y S
def rMulX (K : PySem.W.Frag) : R2 := fun x y H Q => rRepS K x y H Q ∨ rMulD K x y H Q
theorem op_mulX : OpR X (binaryOp .Mult) (rMulX X.K) := op_repS.or op_mulD
theorem k_mulX {fin : D → Store → R D} [Fin' fin] : Op2 X tg E (rMulX X.K) (opMulX fin) := fun W S dx dy x y Q s rx ry p => by
  unfold opMulX at p
  split at p
  · rename_i a k
    split at p
    · rename_i h
      obtain ⟨a1, vs, rfl, t1, r1⟩ := rx
      refine .inl ⟨a1, k, vs, rfl, ry, t1.sq, h.1, h.2.1, ?_, p.give s ⟨a1, vs, rfl, t1, r1⟩⟩
      rcases h.2.2 with e | e
      · subst e
        exact .inl r1
      · exact .inr e
    · exact .inr (k_mul W S _ _ x y Q s rx ry p)
  · exact .inr (k_mul W S _ _ x y Q s rx ry p)
end

/-! ### dict displays: the new dict stands, empty, while its pairs are made -/
def pairsE : List (SE × SE) → Ev → Store → R (List (D × D))
  | [], _, S => .ok [] S
  | (f, g) :: r, env, S => (f env S).bind fun x S1 => (g env S1).bind fun y S2 => (pairsE r env S2).bind fun ps S3 => .ok ((x, y) :: ps) S3
def pairsK : List (D × D) → Option (List (L2.Key × D))
  | [] => some []
  | (k, d) :: r => match keyK k, pairsK r with
    | some k, some r => some ((k, d) :: r)
    | _, _ => none
def eDisp (ps : List (SE × SE)) : SE := fun env S => (pairsE ps env (S ++ [.dK []])).bind fun ds S1 => match pairsK ds with
  | some kvs => if kvs.length ≤ 15 ∧ S1[S.length]? = some (.dK []) then .ok (.obj S.length) (S1.set S.length (.dK (mg [] kvs))) else .stuck
  | none => .stuck
def RepP (K : PySem.W.Frag) (W : Wd) : List (D × D) → List (V × V) → Prop
  | [], vs => vs = []
  | (x, y) :: r, vs => ∃ a b t, vs = (a, b) :: t ∧ Rep K W x a ∧ Rep K W y b ∧ RepP K W r t
theorem RepP.le {K : PySem.W.Frag} {W W' : Wd} (l : Le W W') : ∀ {ps : List (D × D)} {vs : List (V × V)}, RepP K W ps vs → RepP K W' ps vs
  | [], _, h => h
  | (_, _) :: _, _, ⟨a, b, t, e, h1, h2, h3⟩ => ⟨a, b, t, e, h1.le l, h2.le l, RepP.le l h3⟩
theorem RepP.keys {K : PySem.W.Frag} {W : Wd} : ∀ {ps : List (D × D)} {vs : List (V × V)} {kvs : List (L2.Key × D)}, RepP K W ps vs → pairsK ps = some kvs → ∃ ws, vs = ws.map (fun kv : L2.Key × V => (kV kv.1, kv.2)) ∧ PP K W kvs ws
  | [], _, kvs, h, e => by
    obtain rfl := h
    cases e
    exact ⟨[], rfl, .nil⟩
  | (x, y) :: r, _, kvs, ⟨a, b, t, e1, h1, h2, h3⟩, e => by
    unfold pairsK at e
    split at e
    · rename_i k q ek eq
      cases e
      obtain ⟨ws, rfl, p⟩ := RepP.keys h3 eq
      exact ⟨(k, b) :: ws, by rw [e1, h1.keyK ek]; rfl, .cons ⟨rfl, h2⟩ p⟩
    · cases e
theorem pp_mgK {K : PySem.W.Frag} {W : Wd} {more : List (L2.Key × D)} {ms : List (L2.Key × V)} (r : PP K W more ms) : ∀ {acc : List (L2.Key × D)} {as : List (L2.Key × V)}, PP K W acc as → PP K W (mg acc more) (mergeK as ms) := by
  induction r with
  | nil => intro acc as q; exact q
  | @cons p q l m h t ih =>
    intro acc as r0
    refine ih ?_
    have := pp_pt r0 p.1 h.2
    show PP K W (pt acc p.1 p.2) (putK as q.1 q.2)
    rw [← h.1]
    exact this
section
variable {X : Cx} {tg : Addr} {E : XK}
theorem pairs_ok {σ : L2.St} {env : Ev} : ∀ (ps : List (SE × SE)) (G : Wd) (S : Store) (Q : List (V × V) → Hp → Prop), SOk X.K G S → EvR X.K G env σ →
    Post (fun W ds vs => RepP X.K W ds vs) X.K tg E G (pairsE ps env S) Q → tPairs (ps.map fun p => (tE X.K tg E p.1, tE X.K tg E p.2)) σ G.H Q
  | [], G, S, Q, s, ev, q => q G [] (Le.refl _) s rfl
  | (f, g) :: r, G, S, Q, s, ev, q => by
    unfold pairsE at q
    refine tE.mk s ev ((Post.bind q).imp ?_)
    rintro a H1 ⟨W1, x, S1, rfl, l1, s1, r1, q1⟩
    refine tE.mk s1 (ev.le l1) ((Post.bind q1).imp ?_)
    rintro b H2 ⟨W2, y, S2, rfl, l2, s2, r2, q2⟩
    refine pairs_ok r W2 S2 _ s2 ((ev.le l1).le l2) ((Post.bind (ρ := fun W ds vs => RepP X.K W ds vs) q2).imp ?_)
    rintro vps H3 ⟨W3, ds, S3, rfl, l3, s3, r3, q3⟩
    exact q3 W3 _ (Le.refl _) s3 ⟨a, b, vps, rfl, (r1.le l2).le l3, r2.le l3, r3⟩
theorem j_disp {ps : List (SE × SE)} {e : Expr} (h : PE X e (tDisp (ps.map fun p => (tE X.K tg E p.1, tE X.K tg E p.2)))) : JE X tg E e (eDisp ps) :=
  pe_weak h fun σ H Q ⟨W, S, env, hW, s, ev, p⟩ => by
    subst hW
    intro q hq
    unfold eDisp at p
    have C0 := Came.laid (c := .dK []) (o := .dK []) s hq (show RepK X.K W [] [] from rfl)
    have sb := C0.box
    have lb := C0.le_box
    have hn : (Wd.box ⟨W.φ, W.n, upd W.H q (.dK []), fun a => W.pr a ∨ a = q⟩ W q).φ S.length = q := by
      rw [s.len]
      exact box_at
    have hH : (Wd.box ⟨W.φ, W.n, upd W.H q (.dK []), fun a => W.pr a ∨ a = q⟩ W q).H = upd W.H q (.dK []) := rfl
    generalize Wd.box ⟨W.φ, W.n, upd W.H q (.dK []), fun a => W.pr a ∨ a = q⟩ W q = G at sb lb hn hH
    rw [← hH]
    refine pairs_ok ps G (S ++ [.dK []]) _ sb (ev.le lb) ((Post.bind (p.le lb)).imp ?_)
    rintro vps H1 ⟨W1, ds, S1, rfl, l1, s1, r1, p1⟩
    cases q2 : pairsK ds with
    | none => rw [q2] at p1; exact p1.elim
    | some kvs =>
      rw [q2] at p1
      dsimp only at p1
      split at p1
      · rename_i hl
        obtain ⟨ws, rfl, rp⟩ := r1.keys q2
        have hlt : S.length < G.n := by
          rw [← sb.len, List.length_append, List.length_singleton]
          exact Nat.lt_succ_self _
        have hq1 : W1.φ S.length = q := (l1.agree _ hlt).trans hn
        obtain ⟨us, h1, h2⟩ := s1.ob _ _ hl.2
        obtain rfl : us = [] := h2
        rw [hq1] at h1
        refine ⟨h1, ws, rfl, by rw [pp_len rp]; exact hl.1, ?_⟩
        have z := Post.put (v := .ref q) p1 s1 hl.2 True.intro (o := .dK (mergeK [] ws)) (k_pp (pp_mgK rp .nil)) ⟨Nat.lt_of_lt_of_le hlt l1.le, by rw [hq1]⟩
        rw [hq1] at z
        exact z
      · exact p1.elim
end
end Hx
set_option Elab.async false
set_option linter.all false
set_option maxRecDepth 100000
set_option maxHeartbeats 1000000
/-! HxMore: short words for the printed derivations. -/
namespace Hx
open PySem PySem.Spec PyProof.Rows L2
theorem hu2_of {A : Around} {k : Nat} (hr : Room k A) : A.units + 2 < cLine := Nat.lt_of_le_of_lt (Nat.add_le_add_left (by decide : 2 ≤ 64) _) hr.units
section
variable {X : Cx} {tg : Addr} {E : XK} {e a b : Expr} {es : List Expr} {f g : SE} {fa : SA} {c : SB} {st st2 st3 st4 : Stmt} {rest : List Stmt} {u v u3 u4 w : SS} {pos : Pos}
theorem jv (i : Nat) {x : Str} (hN : X.N[i]? = some x := by rfl) (hv : Vis X.env.scope x := by first | exact Or.inl rfl | exact Or.inr (Or.inl rfl) | exact Or.inr (Or.inr rfl)) (hd : (x == ("__debug__" : Str)) = false := by decide) (hcd : (x == ("__classdict__" : Str)) = false := by decide) :
    JE X tg E (.Name x pos) (eVar i) := j_var (pe_var hN hv hd hcd)
theorem j_bi {r : List V → Hp → VK → Prop} {k : List D → Store → R D} (hk : OpL X tg E r k) (h : PE X e (tCB r (tA X.K tg E fa))) : JE X tg E e (eCB k fa) := pe_weak h (tCB_of hk)
theorem k_ipAdd : Op2 X tg E (ipI fun i j => i + j) (opI (fun _ _ => true) fun a b => .int (a + b)) := k_int0 (g := fun i j => .int (i + j)) fun _ _ _ => rfl
/-- and, or as values -/
def eAnd (f g : SE) : SE := fun env S => (f env S).bind fun d S1 => match d with
  | .bl true => g env S1
  | .bl false => .ok (.bl false) S1
  | _ => .stuck
def eOr (f g : SE) : SE := fun env S => (f env S).bind fun d S1 => match d with
  | .bl false => g env S1
  | .bl true => .ok (.bl true) S1
  | _ => .stuck
theorem j_one {op} (h : JE X tg E a f) : JE X tg E (.BoolOp op [a] pos) f := pe_one h
theorem j_and (ha : JE X tg E a f) (hb : JE X tg E (.BoolOp .And (b :: es) pos) g) : JE X tg E (.BoolOp .And (a :: b :: es) pos) (eAnd f g) :=
  pe_weak (pe_and ha hb) fun σ H Q ⟨W, S, env, hW, s, ev, p⟩ => by
    subst hW
    refine tE.mk s ev ((Post.bind p).imp ?_)
    rintro x H1 ⟨W1, d1, S1, rfl, l1, s1, r1, p1⟩
    split at p1
    · exact ⟨true, r1, by rw [if_pos rfl]; exact tE.mk s1 (ev.le l1) p1⟩
    · exact ⟨false, r1, by rw [if_neg Bool.false_ne_true]; exact p1.give s1 rfl⟩
    · exact p1.elim
theorem j_or (ha : JE X tg E a f) (hb : JE X tg E (.BoolOp .Or (b :: es) pos) g) : JE X tg E (.BoolOp .Or (a :: b :: es) pos) (eOr f g) :=
  pe_weak (pe_or ha hb) fun σ H Q ⟨W, S, env, hW, s, ev, p⟩ => by
    subst hW
    refine tE.mk s ev ((Post.bind p).imp ?_)
    rintro x H1 ⟨W1, d1, S1, rfl, l1, s1, r1, p1⟩
    split at p1
    · exact ⟨false, r1, by rw [if_neg Bool.false_ne_true]; exact tE.mk s1 (ev.le l1) p1⟩
    · exact ⟨true, r1, by rw [if_pos rfl]; exact p1.give s1 rfl⟩
    · exact p1.elim
/-- tests of a comprehension -/
def bYes : SB := fun _ S => .ok true S
theorem jts_nil : PTs X [] (tT X.K tg E bYes) := ⟨fun pins s σ H Q I ⟨W, S, env, hW, so, ev, p⟩ => (pts_nil (X := X)).run pins s σ H Q I (by
  subst hW
  exact p W true (Le.refl W) so rfl)⟩
theorem jts_one (h : JT X tg E e c) : PTs X [e] (tT X.K tg E c) := pts_one h
theorem passX {E₁ : XK} (hs : X.stack = X.env :: X.outer) (hf : X.env.frame = some X.env.locals) (hex : X.ex = []) {E₂ : Value → Shared → Prop}
    (hx : X.xe = fun e s' => wpAny (model X.prog X.w) X.A (leaving X.env e) (fun _ s'' => L2.CX X.prog X.w X.outer X.H_0 X.s_0 E₁ e s'') E₂ s') : Passes (L2.CX X.prog X.w) X E₁ := fun pins σ H s e s' I c => passes_call (takes_of hs hf hex hx) (fun _ _ _ _ z => z) pins σ H s e s' I c
/-- y = [..] within the comprehension's frame -/
theorem js_setLc {i : Nat} {fin : D → Store → R D} [Fin' fin] {src : SA} {g : SG} {vs : List Nat} {c : SB} {el : SE} {tgt : TG} (hg : GRaw X.K tgt g vs) (mono : ∀ v σ H Q Q', (∀ σ H, Q σ H → Q' σ H) → tgt v σ H Q → tgt v σ H Q')
    (h : PS X st (tAsg (tLc (tI X.K tg E src) tgt (tT X.K tg E0 c) (tE X.K tg E0 el) vs) (gName i))) : JS X tg E st (sSet i (eLc fin src g vs c el)) :=
  js_set (ps_weak h fun D σ H q => lc_of (fin := fin) hg mono σ H _ q)
/-- the first statements, what they have made told as it is from then on -/
theorem jb_sc1 (h1 : JS X tg E st u) (hr : JB X tg E rest w) : JB X tg E (st :: rest) (sSeq (sScope (sSeq u sNil)) w) := jb_scoped (.cons h1 .nil) hr
theorem jb_sc2 (h1 : JS X tg E st u) (h2 : JS X tg E st2 v) (hr : JB X tg E rest w) : JB X tg E (st :: st2 :: rest) (sSeq (sScope (sSeq u (sSeq v sNil))) w) := jb_scoped (.cons h1 (.cons h2 .nil)) hr
theorem jb_sc3 (h1 : JS X tg E st u) (h2 : JS X tg E st2 v) (h3 : JS X tg E st3 u3) (hr : JB X tg E rest w) : JB X tg E (st :: st2 :: st3 :: rest) (sSeq (sScope (sSeq u (sSeq v (sSeq u3 sNil)))) w) := jb_scoped (.cons h1 (.cons h2 (.cons h3 .nil))) hr

/-- comparisons as tests -/
theorem tVal_of {t : TE} {f : SE} (h : ∀ σ H Q, tE X.K tg E f σ H Q → t σ H Q) (σ : L2.St) (H : Hp) (Q : Bool → Hp → Prop) : tT X.K tg E (bVal f) σ H Q → t σ H fun x H1 => ∃ c, x = .bl c ∧ Q c H1 := fun ⟨W, S, env, hW, s, ev, p⟩ => by
  subst hW
  refine h _ _ _ (tE.mk s ev ((Post.bind p).imp ?_))
  rintro x H1 ⟨W1, d1, S1, rfl, l1, s1, r1, p1⟩
  cases d1 with
  | bl b => exact ⟨b, r1, p1 W1 b (Le.refl W1) s1 rfl⟩
  | _ => exact p1.elim
theorem jt_cmpR {op : CmpOp} {r : R2} {k : D → D → Store → R D} (ho : OpR X (compareOp op) r) (hm : behindInMarks op b = false) (hk : Op2 X tg E r k) (ha : JE X tg E a f) (hb : JE X tg E b g) : JT X tg E (.Compare a [op] [b] pos) (bVal (e2 k f g)) :=
  pt_weak (pt_cmpR ho ha hb hm) fun σ H Q h => tVal_of (tOp_of hk) σ H Q h
theorem jt_pc {op : CmpOp} {t : TE} (h : PC X op a b t) (hb : behindInMarks op b = false) (ht : ∀ σ H Q, tE X.K tg E f σ H Q → t σ H Q) : JT X tg E (.Compare a [op] [b] pos) (bVal f) :=
  pt_weak (pt_cmp h hb) fun σ H Q q => tVal_of ht σ H Q q
end
end Hx
set_option Elab.async false
set_option linter.all false
set_option maxRecDepth 100000
set_option maxHeartbeats 2000000
/-! HxExc: the own error TooGreat: made (super().__init__(number), then its field), raised, caught, its field read. -/
namespace TooX
open PySem PySem.W PySem.Calls PyProof.Rows PySem.HandSPX
/-! ### the text of __init__ -/
def iA : Arguments := { posonlyargs := [], args := [{ arg := "self", annotation := none, pos := ⟨12, 17, 12, 21⟩ }, { arg := "number", annotation := none, pos := ⟨12, 23, 12, 29⟩ }], vararg := none, kwonlyargs := [], kw_defaults := [], kwarg := none, defaults := [] }
def iB : List Stmt :=
  [.Expr (.Call (.Attribute (.Call (.Name "super" ⟨13, 8, 13, 13⟩) [] [] ⟨13, 8, 13, 15⟩) "__init__" ⟨13, 8, 13, 24⟩) [.Name "number" ⟨13, 25, 13, 31⟩] [] ⟨13, 8, 13, 32⟩) ⟨13, 8, 13, 32⟩,
   .Assign [.Attribute (.Name "self" ⟨14, 8, 14, 12⟩) "number" ⟨14, 8, 14, 19⟩] (.Name "number" ⟨14, 22, 14, 28⟩) ⟨14, 8, 14, 28⟩]
def iS : Scope := { kind := .function, names := [(PySem.Str.ofString "self", .local), (PySem.Str.ofString "number", .local), (PySem.Str.ofString "__class__", .free), (PySem.Str.ofString "super", .globalImplicit)], isGenerator := false, isCoroutine := false, more := [] }
/-- what the written part says of TooGreat, at C, and of its __init__, at fI -/
structure TooTxt (P : Program) (K : Frag) (mg : Str → Option Value) (C fI : Addr) : Prop where
  gC : mg "TooGreat" = some (.ref C)
  gS : mg "super" = none
  cls : ∃ nm q N bs bm sn sub ab col dd k0 k1 k2 k3 k5, K.lookup C = some (excClassObj nm q C N bs bm true sn sub ab col dd k0 k1 k2 k3 k5 "ValueError.__new__") ∧ refsVE bm = true
  sa : findIn K (.ref C) "__setattr__" = some (some (.builtin "object.__setattr__"))
  ga : findIn K (.ref C) "__getattribute__" = some (some (.builtin "BaseException.__getattribute__"))
  gg : findIn K (.ref C) "__getattr__" = some none
  noN : findIn K (.ref C) "number" = some none
  iC : findIn K (.ref C) "__init__" = some (some (.ref fI))
  tC : typeIn K (.ref fI) = some (.type "function")
  kC : keepIn K (.ref C) = true
  exC : subIn K (.ref C) (.type "BaseException") = some true
  veC : subIn K (.ref C) (.type "ValueError") = some true
  slC : mroIn K C (.ref C) = some true
  tyC : typeIn K (.ref C) = some (.type "type")
  hdC : hasDictIn K C = true
  te : exmOne K (.ref C) (.ref C) = some true
  su : ks_superIn K C C "__init__" = some (some (.builtin "ValueError.__init__"))
  opq : nsIn K cStatics "thirdparty.any" = some none
  top : (P.main.scope.names.lookup ("super" : Str)).isSome = false
  fn : ∃ (oc : Value) (od : Option Addr) (doc pm : Value) (an : Option Addr) (cda : Addr) (ct : Value) (cc : Addr) (osl : Array (Option Value))
      (ccl : Value) (cdd : Option Addr) (vs : Array Value) (ccs : Array (Option Value)) (file : Str) (tf : Tok) (cl : Value) (cld : Option Addr) (csl : Array (Option Value)),
    K.lookup fI = some ⟨oc, od, .func (ksFn "__init__" "TooGreat.__init__" iA iB iS .none .none doc pm an (.ref cda) ct cc), osl⟩ ∧ codeIn K (.ref cda) "TooGreat.__init__" = true ∧
    K.lookup cda = some ⟨ccl, cdd, .fields vs, ccs⟩ ∧ vs[2]? = some (.str file tf) ∧ ((P.main.file : Str) == file) = true ∧ K.lookup cc = some ⟨cl, cld, .cell (some (.ref C)), csl⟩
/-- the module's names, the builtins -/
structure GlobB (h : Heap) (mg : Str → Option Value) : Prop where
  g : h.Ns mainGlobals mg
  b : ∃ mb, h.Ns builtinsNs mb ∧ ∀ x : Str, x ≠ "__name__" → mb x = bootBuiltins x
theorem GlobB.keeps {h h' : Heap} {mg : Str → Option Value} (x : GlobB h mg) (k : ∀ b o, h.get? b = some o → h'.get? b = some o) : GlobB h' mg := ⟨x.g.keeps k, let ⟨mb, a, b⟩ := x.b; ⟨mb, a.keeps k, b⟩⟩
theorem one_fits (v : Value) : [v].length ≤ sizeLine := by
  rw [sizeLine_eq]
  show 1 ≤ 16777216
  decide
/-- what __init__ leaves of a fresh exception at x -/
structure End1 (h h' : Heap) (x C dx t1 : Addr) (v : Value) : Prop where
  keep : ∀ b o, b ≠ x → h.get? b = some o → h'.get? b = some o
  obj : h'.get? x = some { cls := .ref C, dict := some dx, data := .fields #[.ref t1, .none, .none, .none, .bool false, .none] }
  dbig : h.objs.size ≤ dx
  dne : dx ≠ x
  ns : h'.Ns1 dx (fun y => if y = "number" then some v else none)
/-- a made TooGreat -/
structure Made1 (h h' : Heap) (e C d : Addr) (v : Value) : Prop where
  keep : ∀ b o, h.get? b = some o → h'.get? b = some o
  new : h.objs.size ≤ e
  obj : ∃ oe vs, h'.get? e = some oe ∧ oe.cls = .ref C ∧ oe.dict = some d ∧ oe.data = .fields vs ∧ vs[1]? = some .none
  dbig : h.objs.size ≤ d
  dne : d ≠ e
  ns : h'.Ns1 d (fun y => if y = "number" then some v else none)
section
variable {prog : Program} {w : World} {A : Around} {E : Value → Shared → Prop} {R : Result → Shared → Prop} {s : Shared} {K : Frag} {mg : Str → Option Value} {C fI : Addr}
theorem call_mw {u e t0 : Addr} {h : Heap} {g : Array GenState} {d : Drawn} {t : Nat} {os : OsState} {nm q : Str} {N : Addr} {bs bm : List Value} {hdct : Bool} {sn : List Str} {sub : List Value} {ab : Bool} {col : Option Bool} {dd : Option Addr} {k0 k1 k2 k3 k5 : Option Value} {rest : List Value} {Q : Value → Shared → Prop}
    (hC : h.get? C = some (excClassObj nm q C N bs bm hdct sn sub ab col dd k0 k1 k2 k3 k5 "ValueError.__new__")) (he : h.get? e = some (excO C t0)) (hu : h.get? u = some (kxs_mw "ValueError.__init__" e)) (hrest : rest.length ≤ sizeLine)
    (hq : ∀ h' t1, (∀ b o, b ≠ e → h.get? b = some o → h'.get? b = some o) → h'.get? e = some (excO C t1) → Q .none ⟨h', g, d, t, os⟩) :
    wpAny (model prog w) A (call (.ref u) rest) Q E ⟨h, g, d, t, os⟩ := by
  refine wpAny_call (codeAny_of_tree ?_)
  show wpAny _ A.in1 (callAny (.ref u) ⟨rest, []⟩) _ _ _
  simp only [callAny]
  refine wpAny_bind (wpAny_load hu ?_)
  have e1 : (Value.type "method-wrapper" == Value.type "method" || Value.type "method-wrapper" == Value.type "builtin_function_or_method" || Value.type "method-wrapper" == Value.type "method-wrapper") = true := by decide
  simp only [kxs_mw, e1, if_true]
  refine KFB.if_so (by decide) ?_
  refine wpAny_bind (check_bound_init F.excBase_ValueError.toExcCallFacts hC he rfl ?_)
  refine wpAny_bind (wpAny_pure (wpAny_pure ?_))
  refine ⟨plainId_quiet F.excBase_ValueError.init.plain _, codeAny_builtin F.excBase_ValueError.initEntry ?_⟩
  exact exc_init_tree (cls := .ref C) (t0 := t0) (dv := none) (c2 := .none) (c3 := .none) (b4 := .bool false) he hrest fun h' k e' _ => hq h' _ k e'
theorem ldZ {M : Model} {env : Env} {m : Str → Option Value} {x : Str} {pos : Pos} {v : Value} {Q : Value → Shared → Prop} (hn : s.heap.Ns env.locals m) (hv : m x = some v) (h : Q v s)
    (hk : env.scope.kind = .function := by rfl) (hl : env.kindOf x = some .local := by rfl) (hd : (x == ("__debug__" : Str)) = false := by decide) :
    wpAny M A (eval (.Name x pos) env) Q E s := wpAny_Name (wpAny_loadName_local hk hl hn hv h) hd
theorem too_init (T : TooTxt prog K mg C fI) {x t0 : Addr} {v : Value} (X : K.In s.heap) (G : GlobB s.heap mg) (hlim : s.heap.NoLimit) (hx : s.heap.get? x = some (excO C t0)) (hnx : K.lookup x = none) (hroom : A.depth < recursionLimit)
    (hq : ∀ h' tk dx t1, End1 s.heap h' x C dx t1 v → R (.ok (.ret .none)) { s with heap := h', toks := tk }) :
    codeAny (model prog w) A (.call (.ref fI) ⟨[.ref x, v], []⟩) R s := by
  obtain ⟨oc, od, doc, pm, an, cda, ct, cc, osl, ccl, cdd, vs, ccs, file, tf, cl, cld, csl, ho, hcd, hcode, hvs, hfile, hcell⟩ := T.fn
  obtain ⟨nm, q, N, bs, bm, sn, sub, ab, col, dd, k0, k1, k2, k3, k5, hC, hbm⟩ := T.cls
  have hcl : clsIn K C = some { name := nm, bases := bs, mro := .ref C :: bm, ns := N, qualname := q, hasDict := true, slotNames := sn, subclasses := sub, abstract := ab, collection := col, hasDel := false } := by unfold clsIn; rw [hC] <;> rfl
  refine ks_codeAny_call_defAt (fd := ksFn "__init__" "TooGreat.__init__" iA iB iS .none .none doc pm an (.ref cda) ct cc) (body := iB) (binds := [("self", .ref x), ("number", v)])
    hroom (X _ _ ho) rfl hlim (codeRec_of X hcd) rfl (BindsTo.of_eq (by first | rfl | with_unfolding_all rfl)) (show ∀ y ∈ iS.names, y.2 ≠ .cell by decide) (by first | decide | (intro y hy; simp at hy; rcases hy with rfl | rfl <;> rfl)) (fun h₁ hns hk => ?_) rfl rfl rfl
  have hxL : s.heap.objs.size ≠ x := Nat.ne_of_gt (Heap.lt_size hx)
  have X₁ : K.In h₁ := X.keeps hk
  have G₁ := G.keeps hk
  have hx₁ := hk _ _ hx
  obtain ⟨mb, hb, hbv⟩ := G₁.b
  show _root_.PySem.wpAt (model prog w) (A.deeper (ksEnv "TooGreat.__init__" iS s.heap.objs.size fI (.ref cda) cc)) (.func iB (ksEnv "TooGreat.__init__" iS s.heap.objs.size fI (.ref cda) cc)) (execs iB (ksEnv "TooGreat.__init__" iS s.heap.objs.size fI (.ref cda) cc)) _ _ _
  refine ks_wpAt_execs_cons (ks_wpAt_Expr_any (ks_wpAt_MethodCall ?_ (by first | rfl | with_unfolding_all rfl)))
  obtain ⟨oD, hD1, hD2⟩ : ∃ oD, h₁.get? C = some oD ∧ oD.data = .cls { name := nm, bases := bs, mro := .ref C :: bm, ns := N, qualname := q, hasDict := true, slotNames := sn, subclasses := sub, abstract := ab, collection := col, hasDel := false } := ⟨_, X₁ _ _ hC, rfl⟩
  refine ks_wpAt_super_base (env := ksEnv "TooGreat.__init__" iS s.heap.objs.size fI (.ref cda) cc) (ar := { arg := "self", annotation := none, pos := ⟨12, 17, 12, 21⟩ }) (by first | rfl | with_unfolding_all rfl) (by first | rfl | with_unfolding_all rfl) (by decide) rfl (X₁ _ _ ho) rfl (by first | rfl | with_unfolding_all rfl) rfl (X₁ _ _ hcode) rfl hvs hfile T.top ?_
  refine ks_loadName_global rfl (by first | rfl | with_unfolding_all rfl) (loadGlobal_builtin (env := ksEnv "TooGreat.__init__" iS s.heap.objs.size fI (.ref cda) cc) G₁.g T.gS hb ((hbv _ (by decide)).trans (by decide +kernel)) ⟨rfl, ?_⟩)
  refine wpAny_loadName_free rfl (by first | rfl | with_unfolding_all rfl) rfl ⟨_, X₁ _ _ hcell, rfl⟩ ?_
  refine wpAny_loadName_local (v := .ref x) rfl (by first | rfl | with_unfolding_all rfl) hns (by first | rfl | with_unfolding_all rfl | kernel_rfl) ?_
  refine ks_wpAny_isType_cls hD1 hD2 ⟨rfl, ?_⟩
  refine ks_wpAny_call_super hD1 hD2 hx₁ rfl (fun c e => nomatch e) (looks_mroIn X₁ T.slC) (fun h₂ hso k₂ => ?_)
  have X₂ : K.In h₂ := X₁.keeps k₂
  have hx₂ := k₂ _ _ hx₁
  have su := T.su
  unfold ks_superIn at su
  rw [hcl, Option.bind_some] at su
  have J : PySem.W.InstAt h₂ x (excO C t0) C none := ⟨hx₂, rfl, rfl, trivial⟩
  refine kxs_getMethod kxs_ValueError hso (looks_opaque X₂ T.opq) (l₀ := .ref C :: bm) (fun A Q E s k q => wpAny_bind ((looks_clsIn X₂ hcl) A _ E s k (wpAny_pure q))) rfl X₂ su (J.type.andThen (looks_subIn X₂ T.veC)) (ks_ne X₂ J hcl) (by decide) ?_
  have k₃ : ∀ b o, h₂.get? b = some o → (h₂.push (kxs_mw "ValueError.__init__" x)).get? b = some o := fun b o e => Heap.get?_push_of_some _ e
  have hu : (h₂.push (kxs_mw "ValueError.__init__" x)).get? h₂.objs.size = some (kxs_mw "ValueError.__init__" x) := Heap.get?_push_size _ rfl
  refine kxs_callWith (i := "ValueError.__init__") (x := x) (by first | rfl | with_unfolding_all rfl) (evalArgs_plain ?_)
  have hns₃ := (hns.keeps k₂).keeps k₃
  refine args_cons (ldZ (v := v) hns₃ (by first | rfl | with_unfolding_all rfl | kernel_rfl) (args_nil ⟨hu, ?_⟩)) (by first | rfl | with_unfolding_all rfl)
  refine call_mw (k₃ _ _ (k₂ _ _ (X₁ _ _ hC))) (k₃ _ _ hx₂) hu (one_fits v) fun h₄ t1 k₄ hx₄ => ?_
  -- self.number = number
  have k14 : ∀ b o, b ≠ x → h₁.get? b = some o → h₄.get? b = some o := fun b o hb e => k₄ b o hb (k₃ b o (k₂ b o e))
  have X₄ : K.In h₄ := fun b o e => k14 b o (fun z => by rw [z, hnx] at e; cases e) (X₁ b o e)
  have z1 : s.heap.objs.size < h₁.objs.size := hns.lt
  have hns₄ : h₄.Ns s.heap.objs.size (fun y => ([("self", Value.ref x), ("number", v)] : List (Str × Value)).reverse.lookup y) := by
    obtain ⟨oL, es, ep, hL, r⟩ := hns
    exact ⟨oL, es, ep, k14 _ _ hxL hL, r⟩
  refine wpAt_of_wpAny (wpAny_execs_cons (plainObj_wpAny_Assign_Attribute ?_))
  refine ldZ (v := v) hns₄ (by first | rfl | with_unfolding_all rfl | kernel_rfl) (ldZ (v := .ref x) hns₄ (by first | rfl | with_unfolding_all rfl | kernel_rfl) ?_)
  refine set_plain X₄ (ox := excO C t1) (od := none) ⟨hx₄, rfl, rfl, trivial⟩ T.sa ?_
  refine exc_osa X₄ hx₄ hcl (show refsVE (.ref C :: bm) = true from hbm) rfl T.noN (fun h₅ tk₅ dx k₅ dn dne hx₅ hn₅ => ?_)
  have up : ∀ b o, b ≠ x → s.heap.get? b = some o → h₅.get? b = some o := fun b o hb e => k₅ b o hb (k14 b o hb (hk b o e))
  have big : s.heap.objs.size ≤ h₄.objs.size := by
    obtain ⟨oL, _, _, hL, _⟩ := hns₄
    exact Nat.le_of_lt (Heap.lt_size hL)
  exact wpAny_execs_nil (hq h₅ tk₅ dx t1 ⟨up, hx₅, Nat.le_trans big dn, dne, hn₅⟩)
theorem too_made (T : TooTxt prog K mg C fI) {v : Value} (X : K.In s.heap) (G : GlobB s.heap mg) (hlim : s.heap.NoLimit) (hroom : A.depth + 1 < recursionLimit)
    (hq : ∀ h' tk e d, Made1 s.heap h' e C d v → R (.ok (.ret (.ref e))) { s with heap := h', toks := tk }) :
    codeAny (model prog w) A (.call (.ref C) ⟨[v], []⟩) R s := by
  obtain ⟨nm, q, N, bs, bm, sn, sub, ab, col, dd, k0, k1, k2, k3, k5, hC, hbm⟩ := T.cls
  obtain ⟨hp, g, dr, tk, os⟩ := s
  have k : ∀ b o, hp.get? b = some o → ((hp.push (kdv_tup [v])).push (excO C hp.objs.size)).get? b = some o := fun b o e => Heap.get?_push_of_some _ (Heap.get?_push_of_some _ e)
  have hget : ((hp.push (kdv_tup [v])).push (excO C hp.objs.size)).get? (hp.objs.size + 1) = some (excO C hp.objs.size) := by heap_get
  have hnx : K.lookup (hp.objs.size + 1) = none := by
    cases e : K.lookup (hp.objs.size + 1) with
    | none => rfl
    | some o =>
      have z : hp.get? (hp.objs.size + 1) = some o := X _ _ e
      exact absurd (Nat.lt_of_succ_lt (Heap.lt_size z)) (Nat.lt_irrefl _)
  refine call_own F.excBase_ValueError (fun X => refsVE_contains X bm hbm) (X _ _ hC) (looks_findIn X T.iC) (fun self => bind_fn X self T.tC) (one_fits v) ?_
  refine too_init (s := ⟨(hp.push (kdv_tup [v])).push (excO C hp.objs.size), g, dr, tk, os⟩) T (X.keeps k) (G.keeps k) (hlim.keeps k) hget hnx ?_ fun h' tk' dx t1 ⟨k', hx, dn, dne, hns⟩ => ?_
  · show A.depth + 1 < recursionLimit
    exact hroom
  · have old : ∀ b o, hp.get? b = some o → h'.get? b = some o := fun b o e => k' b o (Nat.ne_of_lt (Nat.lt_succ_of_lt (Heap.lt_size e))) (k b o e)
    have z : hp.objs.size ≤ dx := by
      have q := dn
      have q' : ((hp.push (kdv_tup [v])).push (excO C hp.objs.size)).objs.size ≤ dx := q
      rw [Heap.size_push, Heap.size_push] at q'
      omega
    exact ⟨rfl, hq h' tk' (hp.objs.size + 1) dx ⟨old, Nat.le_succ _, ⟨_, _, hx, rfl, rfl, rfl, rfl⟩, z, dne, hns⟩⟩
end
end TooX
namespace L2
open PySem PySem.Spec PyProof.Rows
theorem relO_num {v : V} {v' : Value} (r : RelV v v') (f : Str) : RelO (List.lookup f [(("number" : Str), v)]) (if f = "number" then some v' else none) := by
  by_cases hw : f = "number"
  · subst hw
    rw [if_pos rfl]
    have q : List.lookup ("number" : Str) [(("number" : Str), v)] = some v := by simp [List.lookup]
    rw [q]
    exact r
  · rw [if_neg hw]
    have qw : (f == ("number" : Str)) = false := by simpa using hw
    have q2 : List.lookup f [(("number" : Str), v)] = none := by simp [List.lookup, qw]
    rw [q2]
    trivial
section
variable {X : Cx} {C fI : Addr}
/-- TooGreat(e) -/
def tMkToo (C : Addr) (ta : TA) : St → Hp → XK → Prop := fun σ H Q => ta σ H fun vs H1 => ∃ v, vs = [v] ∧ ∀ d, H1 d = none → Q (.ref C) (some d) (upd H1 d (.xd [(("number" : Str), v)]))
theorem pmk_too {a : Expr} {ta : TA} {p pos : Pos} {k : Nat} (T : TooX.TooTxt X.prog X.K X.mg C fI) (hr : Room k X.A) (ha : PA X [a] ta) (hg : Gl X "TooGreat" := by rfl)
    (he : starEach (a :: []) X.env = (false, eval a X.env) :: starEach [] X.env := by rfl) (hpl : (backTo pos (starEach [] X.env)).any (·.1) = false := by rfl) :
    PMk X (.Call (.Name "TooGreat" p) [a] [] pos) (tMkToo C ta) := by
  intro pins s σ H Q I h
  refine wpAny_Call_Name_kw (ld_glob I hg T.gC ?_)
  refine PySem.W.callWith_K (h₀ := X.base) I.ok.mod.kin T.kC (thn (ha.run pos pins s σ H _ I h) fun us s1 hh => ?_) he hpl
  obtain ⟨vs, H1, I1, r1, v, ev, q1⟩ := hh
  subst ev
  refine ⟨I1.kIn, ?_⟩
  cases r1 with
  | cons rv rn =>
    rename_i v' us'
    cases rn
    show wpAny _ _ (call (.ref C) [v']) _ _ _
    have hlim := I1.nolimit
    have G : TooX.GlobB s1.heap X.mg := by
      obtain ⟨mb, h1, h2⟩ := I1.mod.blt
      exact ⟨I1.mod.glob.keeps I1.bk, mb, h1.keeps I1.bk, h2⟩
    obtain ⟨hp, g, dr, tk, os⟩ := s1
    refine wpAny_call (TooX.too_made T I1.kIn G hlim (by have := hr.dp; omega) fun h' tk' e d M => ?_)
    show MkP X pins σ Q (.ref e) ⟨h', g, dr, tk', os⟩
    obtain ⟨oe, fv, hoe, hc, hd, hdat, h1⟩ := M.obj
    have hns := M.ns
    obtain ⟨G', g1, g2⟩ := restrict h' fun b => decide (b ≠ e)
    have gk : ∀ b, b ≠ e → G'.get? b = h'.get? b := fun b hb => g1 b (decide_eq_true hb)
    have ge : G'.get? e = none := g2 e (by simp)
    have old : ∀ b o, hp.get? b = some o → G'.get? b = some o := fun b o q => (gk b (Nat.ne_of_lt (Nat.lt_of_lt_of_le (Heap.lt_size q) M.new))).trans (M.keep b o q)
    have ob : ObjOk X.prog X.w (upd H1 d (.xd [(("number" : Str), v)])) G' d (.xd [(("number" : Str), v)]) :=
      ⟨_, hns.at (fun o q => (gk d M.dne).trans q), fun f => relO_num rv f⟩
    have J : Inv X pins σ (upd H1 d (.xd [(("number" : Str), v)])) ⟨G', g, dr, tk', os⟩ := I1.laid (t' := tk') old M.dbig ob
    refine ⟨e, oe, fv, ⟨G', g, dr, tk', os⟩, _, .ref C, some d, rfl, J, fun b o q => ?_, ge, hoe, ⟨hc, hd⟩, hdat, h1, ?_, rfl, I1.bare, raises_own T.exC T.tyC, q1 d (I1.hok.fresh M.dbig)⟩
    · by_cases hb : b = e
      · have q' : G'.get? b = some o := q
        rw [hb, ge] at q'; cases q'
      · exact (gk b hb).symm.trans q
    · rw [upd_ne (Ne.symm M.dne)]
      exact I1.hok.fresh M.new
/-- error.number, error the exception that the suite holds (at a; its class cls, its dict d) -/
def tNum (C : Addr) (a : Addr) (cls : Value) (d : Option Addr) (te : TE) : TE := fun σ H Q => te σ H fun x H1 => x = .ref a ∧ cls = .ref C ∧ ∃ (dd : Addr) (v : V), d = some dd ∧ H1 dd = some (.xd [(("number" : Str), v)]) ∧ Q v H1
theorem pe_num {a : Addr} {oe : Obj} {cls : Value} {d : Option Addr} {pn : List (Addr × Obj)} {e : Expr} {te : TE} {pos : Pos} (T : TooX.TooTxt X.prog X.K X.mg C fI) (hz : Zc cls d oe) (hf : ∃ vs, oe.data = .fields vs) (he : PE (X.suite a ((a, oe) :: pn)) e te)
    (hb : attributeBase e "number" X.env (eval e X.env) = eval e X.env := by rfl) :
    PE (X.suite a ((a, oe) :: pn)) (.Attribute e "number" pos) (tNum C a cls d te) := by
  refine ⟨fun pins s σ H Q I h => ?_⟩
  refine attr_of hb (thn (he.run pins s σ H _ I h) fun u s1 hh => ?_)
  obtain ⟨x, H1, I1, rx, ex, ec, dd, v, ed, ea, q⟩ := hh
  subst ex
  obtain rfl : u = Value.ref a := rx
  subst ec
  subst ed
  obtain ⟨ha, _⟩ := I1.pin (a, oe) (List.mem_append_left _ List.mem_cons_self)
  obtain ⟨vs, hd⟩ := hf
  have hx : ObjOk X.prog X.w H1 s1.heap dd (.xd [(("number" : Str), v)]) := I1.hok dd _ ea
  obtain ⟨mA, hns, hr⟩ := hx
  obtain ⟨od, ho, hl⟩ := lookIn_ns hns
  have l : List.lookup ("number" : Str) [(("number" : Str), v)] = some v := by simp [List.lookup]
  obtain ⟨u, hu, ru⟩ := RelO.some_of (v := v) (o := mA "number") (by rw [← l]; exact hr "number")
  have J : PySem.W.InstAt s1.heap a oe C (some od) := ⟨ha, hz.1, by unfold PySem.W.notCls; rw [hd] <;> rfl, by rw [hz.2]; exact ho⟩
  exact HandSPX.exc_get I1.kIn J T.ga T.gg T.exC (PySem.W.findObj_own T.hdC T.noN rfl (by rw [hl, hu])) (handed_of ru) ⟨v, H1, I1.tok _, ru, q⟩
end
end L2
namespace Hx
open PySem PySem.Spec PyProof.Rows L2
/-- raise TooGreat(e) -/
def sRaise (f : SE) : SS := fun env S => (f env S).bindS fun d S1 => .exc d S1
section
variable {X : Cx} {tg fI : Addr} {E : XK} {a : Expr} {f : SE}
theorem js_raise {p pos pos2 : Pos} {k : Nat} (hc : X.calm = true) (T : TooX.TooTxt X.prog X.K X.mg tg fI) (hr : Room k X.A) (tk : Takes X (fun cls d _ H => E cls d H)) (ha : JE X tg E a f) (hg : Gl X "TooGreat" := by rfl)
    (he : starEach (a :: []) X.env = (false, eval a X.env) :: starEach [] X.env := by rfl) (hpl : (backTo pos (starEach [] X.env)).any (·.1) = false := by rfl) :
    JS X tg E (.Raise (some (.Call (.Name "TooGreat" p) [a] [] pos)) none pos2) (sRaise f) :=
  ps_weak (ps_raise hc tk (pmk_too T hr (ja_cons ha ja_nil he) hg he hpl)) fun D σ H ⟨W, S, env, hW, s, ev, p⟩ => by
    subst hW
    refine tA.mk s ev ?_
    unfold sRaise at p
    unfold aCons aNil
    cases q : f env S with
    | stuck => rw [q] at p; exact p.elim
    | exc x S1 => rw [q] at p; exact p
    | ok d S1 =>
      rw [q] at p
      intro W1 vs l1 s1 r1
      obtain ⟨v, t, rfl, r1, rfl⟩ := r1
      exact ⟨v, rfl, fun dd hd => p ⟨W1.φ, W1.n, upd W1.H dd (.xd [("number", v)]), W1.pr⟩ dd v (l1.trans (Le.laid hd)) (s1.laid hd) upd_same (r1.le (Le.laid hd))⟩
end
end Hx
set_option Elab.async false
set_option linter.all false
set_option maxRecDepth 100000
set_option maxHeartbeats 1000000
/-! HxRepr: repr(..) of lists and tuples of data, in a def that no repr is under way around. -/
namespace Hx
open PySem PySem.Spec PyProof.Rows L2
section
variable {X : Cx} {tg : Addr} {E : XK}
/-- what repr can show here -/
def shows (p : PyData) : Bool := p.showable && !p.hasDict && decide (p.depth ≤ 32) && decide (p.shown.length ≤ sizeLine)
def rReprS (K : PySem.W.Frag) : List V → Hp → VK → Prop := fun xs H Q => ∃ (a : Addr) (d : PyData), xs = [.ref a] ∧ Dp K H (.ref a) d ∧ shows d = true ∧ Q (.str d.shown) H
theorem call_reprS (hg : X.A.guards = some []) (hu : X.A.units + 64 < cLine) : CallR X (.builtin "repr") (rReprS X.K) := by
  intro pins s σ H xs us Q I r ⟨a, d, ex, hd, hs, q⟩
  subst ex
  obtain ⟨u, rfl, rx⟩ := r.one
  obtain rfl : u = .ref a := rx
  obtain ⟨as, rd⟩ := Dp.reads I d _ _ hd rfl
  unfold shows at hs
  simp only [Bool.and_eq_true, decide_eq_true_eq, Bool.not_eq_true'] at hs
  obtain ⟨⟨⟨h1, h2⟩, h3⟩, h4⟩ := hs
  exact PySem.repr_of_reads' rd h1 (PyData.noDict_hsm h2) hg (by omega) (fun _ _ e => e) (fun h' u tk hk => ⟨.str d.shown, H, I.kept hk, ⟨_, rfl⟩, q⟩) h4
def isRef : D → Bool
  | .tup _ => true
  | .lst _ => true
  | .obj _ => true
  | _ => false
def biRepr : List D → Store → R D := fun xs S => match xs with
  | [x] => match toPy S x with
    | some p => if isRef x = true ∧ shows p = true then .ok (.str p.shown) S else .stuck
    | none => .stuck
  | _ => .stuck
theorem k_repr : OpL X tg E (rReprS X.K) biRepr := fun W S ds vs Q s rl p => by
  unfold biRepr at p
  split at p
  · rename_i x
    obtain ⟨v, t, rfl, rx, rfl⟩ := rl
    split at p
    · rename_i y ey
      split at p
      · rename_i hh
        have hd := Rep.dp s rx ey
        cases x with
        | tup ds =>
          obtain ⟨a, _, rfl, _⟩ := rx
          exact ⟨a, y, rfl, hd, hh.2, p.give s rfl⟩
        | lst ds =>
          obtain ⟨a, _, rfl, _⟩ := rx
          exact ⟨a, y, rfl, hd, hh.2, p.give s rfl⟩
        | obj i =>
          obtain ⟨_, rfl⟩ := rx
          exact ⟨_, y, rfl, hd, hh.2, p.give s rfl⟩
        | _ => exact absurd hh.1 (by simp [isRef])
      · exact p.elim
    · exact p.elim
  · exact p.elim
end
end Hx
set_option linter.all false
namespace Hx
open PySem PySem.Spec PyProof.Rows L2
theorem execs_app (env : Env) : ∀ (a b : List Stmt), execs (a ++ b) env = execs a env >>= fun f => match f with | .next => execs b env | f => pure f
  | [], b => by
    rw [List.nil_append, execs_nil, pure_bind]
  | st :: r, b => by
    rw [List.cons_append, execs_cons, execs_cons, bind_assoc]
    congr 1
    funext f
    cases f with
    | next => exact execs_app env r b
    | _ => simp
theorem pss_app {X : Cx} {a b : List Stmt} {t u : TS} (h1 : PSs X a t) (h2 : PSs X b u) : PSs X (a ++ b) (tSeq t u) := by
  refine ⟨fun pins s σ H D I h => ?_⟩
  rw [execs_app]
  refine wpAny_bind (thn (h1.run pins s σ H { D with nx := u D } I h) fun f s1 q => ?_)
  cases f with
  | next =>
    obtain ⟨σ', H', I', q⟩ := q
    exact h2.run pins s1 σ' H' D I' q
  | ret v => exact wpAny_pure q
  | brk => exact wpAny_pure q
  | cont => exact wpAny_pure q
end Hx
set_option Elab.async false
set_option linter.all false
set_option maxRecDepth 100000
set_option maxHeartbeats 1000000
/-! HxEnd: the law called: no repr under way around it, its own table of code objects empty. -/
namespace Hx
open PySem PySem.Spec PyProof.Rows L2
/-- the script's object -/
abbrev scrObj (vs : List Value) : Obj := { cls := .type "list", data := .seq vs.toArray }
/-- what is tracked at the start: the table, the script (where the written part does not hold it) -/
def hp0 (K : PySem.W.Frag) (a Pt : Addr) (vs : List Value) (ns : List Int) : Hp := fun b => if b = Pt then some (.tbl #[]) else if b = a ∧ (K.lookup a).isNone = true then some (.frz (scrObj vs) (.lst (ns.map V.int))) else none
section
variable {K : PySem.W.Frag} {a Pt : Addr} {vs : List Value} {ns : List Int}
theorem hp0_tab : hp0 K a Pt vs ns Pt = some (.tbl #[]) := if_pos rfl
theorem hp0_cases {b : Addr} {o : HO} (h : hp0 K a Pt vs ns b = some o) : (b = Pt ∧ o = .tbl #[]) ∨ (b ≠ Pt ∧ b = a ∧ K.lookup a = none ∧ o = .frz (scrObj vs) (.lst (ns.map V.int))) := by
  unfold hp0 at h
  by_cases h1 : b = Pt
  · rw [if_pos h1] at h
    exact .inl ⟨h1, (Option.some.inj h).symm⟩
  · rw [if_neg h1] at h
    by_cases h2 : b = a ∧ (K.lookup a).isNone = true
    · rw [if_pos h2] at h
      exact .inr ⟨h1, h2.1, Option.isNone_iff_eq_none.mp h2.2, (Option.some.inj h).symm⟩
    · rw [if_neg h2] at h
      cases h
theorem hp0_scr (na : a ≠ Pt) (hk : K.lookup a = none) : hp0 K a Pt vs ns a = some (.frz (scrObj vs) (.lst (ns.map V.int))) := by
  unfold hp0
  rw [if_neg na, if_pos ⟨rfl, by rw [hk]; rfl⟩]
end
theorem law_callG {P : Program} {w : World} {K : PySem.W.Frag} {mg mb : Str → Option Value} {CX : CXT} {k : Nat} {fa a c Pt : Addr} {name qual : Str} {params : Arguments} {body : List Stmt} {scope : Scope} {dV kV doc pm ct oc : Value} {an od : Option Addr} {osl : Array (Option Value)} {N : List Str} {x : Str} {s₁ : Shared} {vs : List Value} {ns : List Int}
    (lk : K.lookup fa = some ⟨oc, od, .func (PySem.W.fnOf name qual params body scope dV kV doc pm an (.ref c) ct), osl⟩) (hcd : PySem.W.codeIn K (.ref c) qual = true) (S : FnScope N [x] scope)
    (KX : K.In s₁.heap) (hns : s₁.heap.Ns mainGlobals mg) (hb : s₁.heap.Ns builtinsNs mb) (hbb : ∀ x : Str, x ≠ "__name__" → mb x = bootBuiltins x) (hlim : s₁.heap.NoLimit) (hg : s₁.gens = #[])
    (hT : s₁.heap.get? Pt = some { cls := .none, data := .fields #[] }) (nT : K.lookup Pt = none) (C : PySem.W.CodeHd s₁.heap c Pt)
    (hbm : ∃ (bm : Addr) (ob : Obj), mg "__builtins__" = some (.ref bm) ∧ bm ≠ builtinsNs ∧ s₁.heap.get? bm = some ob ∧ ob.cls = .type "module" ∧ ob.dict = some builtinsNs ∧ ob.data = .plain)
    (ha : s₁.heap.get? a = some (scrObj vs)) (hi : IntsAre vs ns) (hl : ns.length ≤ sizeLine) (hr : Room (k + 1) callerA)
    (hbind : ∀ (s : Shared) (u : Value), BindsTo s (PySem.W.fnOf name qual params body scope dV kV doc pm an (.ref c) ct) ⟨[u], []⟩ [(x, u)])
    (hbody : ∀ (base : Heap) (H : Hp), K.In base → base.Ns mainGlobals mg → LamX.TabB base mg c Pt → H Pt = some (.tbl #[]) → (Rd H a (.lst (ns.map V.int)) ∨ WrL K a (ns.map V.int)) → Room k (callerA.deeper (envOfC qual scope s₁.heap.objs.size fa (.ref c))) →
      ∃ t, PSs (cxOf CX P w K mg base N qual scope fa (.ref c) callerA [] s₁ H fun _ _ _ => False) body t ∧ t { nx := fun _ _ => V.non = .bl true, rt := fun v _ => v = .bl true } (L2.start N [.ref a]) H)
    (hCX : ∀ H e s', CX [] H s₁ (fun _ _ _ => False) e s' → False) :
    codeAny (model P w) callerA (.call (.ref fa) ⟨[.ref a], []⟩) (fun r s' => r = .ok (.ret (.bool true)) ∧ OldK s₁.heap s'.heap ∧ s'.os = s₁.os ∧ AllBare s'.gens) s₁ := by
  have rv := vals_ints hi
  have lenV := hi.length
  have na : a ≠ Pt := fun z => by
    rw [z, hT] at ha
    exact nomatch congrArg Obj.data (Option.some.inj ha)
  have hok : HOk P w (hp0 K a Pt vs ns) s₁.heap := fun b o q => by
    rcases hp0_cases q with ⟨rfl, rfl⟩ | ⟨h1, rfl, h3, rfl⟩
    · exact hT
    · exact ⟨ha, by rw [List.length_map]; exact hl, vs, _, rv, ha⟩
  -- what stands and is not tracked stands in the ground
  have base_of : ∀ {b : Addr} {o : Obj}, s₁.heap.get? b = some o → (∀ xs n, o.data ≠ .seq xs n) → o.data ≠ .fields #[] → (hidT s₁.heap (hp0 K a Pt vs ns)).get? b = some o := fun {b o} e h1 h2 => hidT_get e (by
    cases q : hp0 K a Pt vs ns b with
    | none => rfl
    | some u =>
      exfalso
      rcases hp0_cases q with ⟨rfl, _⟩ | ⟨_, rfl, _, _⟩
      · rw [hT] at e
        cases e
        exact h2 rfl
      · rw [ha] at e
        cases e
        exact h1 _ _ rfl)
  have nsK : ∀ {b : Addr} {m : Str → Option Value}, s₁.heap.Ns b m → (hidT s₁.heap (hp0 K a Pt vs ns)).Ns b m := fun {b m} ⟨o, es, ep, e, d, r⟩ => ⟨o, es, ep, base_of e (fun xs n z => by rw [d] at z; cases z) (fun z => by rw [d] at z; cases z), d, r⟩
  have hKb : K.In (hidT s₁.heap (hp0 K a Pt vs ns)) := fun b o e => hidT_get (KX b o e) (by
    cases q : hp0 K a Pt vs ns b with
    | none => rfl
    | some u =>
      exfalso
      rcases hp0_cases q with ⟨rfl, _⟩ | ⟨_, rfl, h3, _⟩
      · rw [nT] at e; cases e
      · rw [h3] at e; cases e)
  have hM : L2.Mod K mg (hidT s₁.heap (hp0 K a Pt vs ns)) := ⟨hKb, nsK hns, ⟨mb, nsK hb, hbb⟩, let ⟨mc, h1, h2⟩ := hlim; ⟨mc, nsK h1, h2⟩⟩
  have TB : LamX.TabB (hidT s₁.heap (hp0 K a Pt vs ns)) mg c Pt := by
    refine ⟨?_, ?_, fun z => ?_⟩
    · obtain ⟨o, us, file, tf, flags, tg, inF, text, tt, e1, r1, r2, r3, rest⟩ := C
      refine ⟨o, us, file, tf, flags, tg, inF, text, tt, base_of e1 (fun xs n z => ?_) (fun z => ?_), r1, r2, r3, rest⟩
      · rw [r2] at z; cases z
      · rw [r2] at z; cases z; simp at r3
    · obtain ⟨bm, ob, b1, b2, b3, b4, b5, b6⟩ := hbm
      refine ⟨bm, ob, b1, b2, fun q => ?_, fun q => ?_, base_of b3 (fun xs n z => ?_) (fun z => ?_), b4, b5, b6⟩
      · obtain ⟨o, es, ep, e, hd, _⟩ := hns
        rw [q, e] at b3
        cases b3
        rw [hd] at b6
        cases b6
      · rw [q, hT] at b3
        cases b3
        cases b6
      · rw [b6] at z; cases z
      · rw [b6] at z; cases z
    · obtain ⟨o, es, ep, e, hd, _⟩ := hns
      rw [z, hT] at e
      cases e
      cases hd
  have e0 : Env0 P w K mg (hidT s₁.heap (hp0 K a Pt vs ns)) callerA [] s₁ (hp0 K a Pt vs ns) := ⟨rfl, hM, fun b o e => of_hidT e, Nat.le_of_eq (hidT_size _ _), trivial, fun b hb => absurd (show b ∈ ([] : List Addr) from hb) (by simp), hok, .of_eq hg⟩
  have hscr : Rd (hp0 K a Pt vs ns) a (.lst (ns.map V.int)) ∨ WrL K a (ns.map V.int) := by
    cases hk : K.lookup a with
    | none => exact .inl (.inr ⟨_, hp0_scr na hk⟩)
    | some o =>
      have e := KX a o hk
      rw [ha] at e
      cases e
      exact .inr ⟨_, vs.toArray, _, hk, rfl, rfl, rfl, by rw [List.size_toArray, lenV]; exact hl, by simpa using rv⟩
  refine codeAny_mono (LamX.run_ofS (us := [.ref a]) (vs := [.ref a]) (Q := fun v _ => v = .bl true) (E := fun _ _ _ => False) lk hcd S hr e0 (hbind s₁ (.ref a)) (.cons rfl .nil) rfl fun hr' => hbody _ _ hKb (nsK hns) TB hp0_tab hscr hr') fun r s' h => ?_
  cases r with
  | error e => exact (hCX _ e s' h).elim
  | ok fl =>
    cases fl with
    | next => exact False.elim h
    | brk => exact False.elim h
    | cont => exact False.elim h
    | ret u =>
      obtain ⟨v, H', os, bare, un, hok', r', q⟩ := h
      obtain rfl : v = .bl true := q
      obtain rfl : u = Value.bool true := r'
      obtain ⟨more, zt⟩ := un.tbls Pt #[] hp0_tab
      have grown : s'.heap.get? Pt = some { cls := .none, data := .fields (#[] ++ more) } := hok' Pt _ zt
      have key : ∀ b o, b ≠ Pt → s₁.heap.get? b = some o → s'.heap.get? b = some o := fun b o nb e => by
        cases q : hp0 K a Pt vs ns b with
        | none => exact un.keep b o e q (by intro z; exact absurd (show b ∈ ([] : List Addr) from z) (by simp)) (by simp)
        | some u =>
          rcases hp0_cases q with ⟨z, _⟩ | ⟨_, _, _, rfl⟩
          · exact absurd z nb
          · obtain ⟨e1, _⟩ := hok b _ q
            obtain ⟨e2, _⟩ := hok' b _ (un.frzs b _ _ q)
            rw [e] at e1
            cases e1
            exact e2
      refine ⟨rfl, ⟨fun b o e => ?_, fun b o e => ?_⟩, os, bare⟩
      · by_cases hb : b = Pt
        · subst hb
          rw [hT] at e
          cases e
          exact .inr (.inl ⟨(C.tab hT).isCodeTable, rfl, #[], more, rfl, grown⟩)
        · exact .inl (key b o hb e)
      · by_cases hb : b = Pt
        · subst hb
          exact ⟨_, grown⟩
        · exact ⟨o, key b o hb e⟩
/-- what is to be shown of the law -/
def LawG (l : PySem.W.OpenLaw) (w : World) (K : PySem.W.Frag) (CX : CXT) (k n : Nat) (x dn : Str) (mg : Str → Option Value) (fa : Addr) : Prop :=
  ∃ (c Pt : Addr) (name qual : Str) (params : Arguments) (body : List Stmt) (scope : Scope) (dV kV doc pm ct oc : Value) (an od : Option Addr) (osl : Array (Option Value)) (N : List Str),
    K.lookup fa = some ⟨oc, od, .func (PySem.W.fnOf name qual params body scope dV kV doc pm an (.ref c) ct), osl⟩ ∧ PySem.W.codeIn K (.ref c) qual = true ∧ FnScope N [x] scope ∧ PySem.W.tabIn K dn = some (c, Pt) ∧ K.lookup Pt = none ∧
    (∀ (s : Shared) (u : Value), BindsTo s (PySem.W.fnOf name qual params body scope dV kV doc pm an (.ref c) ct) ⟨[u], []⟩ [(x, u)]) ∧
    ∀ (base : Heap) (H : Hp) (s₁ : Shared) (a : Addr) (ns : List Int), ns.length ≤ n → K.In base → base.Ns mainGlobals mg → LamX.TabB base mg c Pt → H Pt = some (.tbl #[]) → (Rd H a (.lst (ns.map V.int)) ∨ WrL K a (ns.map V.int)) → Room k (callerA.deeper (envOfC qual scope s₁.heap.objs.size fa (.ref c))) →
      ∃ t, PSs (cxOf CX l.prog w K mg base N qual scope fa (.ref c) callerA [] s₁ H fun _ _ _ => False) body t ∧ t { nx := fun _ _ => V.non = .bl true, rt := fun v _ => v = .bl true } (L2.start N [.ref a]) H
theorem walk_G {l : PySem.W.OpenLaw} {n k : Nat} {q : Program} {loose : List Str} {XP : (Str → Option Value) → Heap → Prop} {YP : World → Heap → Prop} {d r0 : DefRec} {K : Params → PySem.W.Frag} {CX : World → CXT} {x : Str}
    (hn : l.most = some n) (hn2 : n ≤ sizeLine) (hdf : d.params.defaults = []) (hr : Room (k + 1) callerA) (hrec : ((recsOf q).find? fun e => e.name == d.name) = some r0) (hY : ∀ (w : World) (h : Heap), YP w h → (K w.params).In h)
    (F : ∀ (w : World) (mg : Str → Option Value) (fa : Addr) (h : Heap), YP w h → (K w.params).In h → h.Ns mainGlobals mg → mg d.name = some (.ref fa) → LawG l w (K w.params) (CX w) k n x d.name mg fa)
    (hCX : ∀ (w : World) (H : Hp) (s : Shared) (e : Value) (s' : Shared), CX w [] H s (fun _ _ _ => False) e s' → False) :
    PySem.W.WalkO q loose XP YP l.row.toRowW d [] (fun f vs => PySem.call f vs) := by
  refine Att.attach_callB hn hdf fun w s₀ s₁ mg mb fa o pm cd doc a vs ns G Y ho hd hcd hmg hobj hints hlen hbits hg => ?_
  have KX := hY w _ Y
  obtain ⟨c, Pt, name, qual, params, body, scope, dV, kV, doc2, pm2, ct, oc, an, od, osl, N, lk, hcd2, S, ht, nT, hb, hbody⟩ := F w mg fa _ Y KX G.T.g hmg
  obtain ⟨C, hT⟩ := PySem.W.tab_of G.T KX hrec ht
  exact law_callG lk hcd2 S KX G.T.g G.T.b G.T.builtins G.T.nolimit hg hT nT C G.T.bmain hobj hints (Nat.le_trans hlen hn2) hr hb (fun base H hK hN TB hP hS hr' => hbody base H s₁ a ns hlen hK hN TB hP hS hr') fun H e s' => hCX w H s₁ e s'
end Hx
set_option Elab.async false
set_option linter.all false
set_option maxRecDepth 100000
set_option maxHeartbeats 1000000
/-! HxRun: running the plain functions: loops, comprehensions, cuts. -/
namespace Hx
open PySem PySem.Spec PyProof.Rows L2

/-! ### loops -/
/-- each turn goes on; R says what holds behind the items done so far -/
theorem forL_go {α : Type} {enc : α → D} {g : SG} {u : SS} (R : List α → Ev → Store → Prop) : ∀ (as pre : List α) (env : Ev) (S : Store), R pre env S →
    (∀ pre a post env S, pre ++ a :: post = pre ++ a :: post → R pre env S → a ∈ as → ∃ env1 env2 S2, g (enc a) env = some env1 ∧ (u env1 S = .nx env2 S2 ∨ u env1 S = .ct env2 S2) ∧ R (pre ++ [a]) env2 S2) →
    ∃ env' S', forL g u (as.map enc) env S = .nx env' S' ∧ R (pre ++ as) env' S'
  | [], pre, env, S, h, _ => ⟨env, S, rfl, by rw [List.append_nil]; exact h⟩
  | a :: r, pre, env, S, h, st => by
    obtain ⟨env1, env2, S2, e1, e2, h2⟩ := st pre a r env S rfl h List.mem_cons_self
    obtain ⟨env', S', e3, h3⟩ := forL_go R r (pre ++ [a]) env2 S2 h2 fun p b post e s q hp hb => st p b post e s q hp (List.mem_cons_of_mem _ hb)
    refine ⟨env', S', ?_, by rw [List.append_assoc] at h3; exact h3⟩
    rw [List.map_cons]
    unfold forL
    rw [e1]
    dsimp only
    rcases e2 with e2 | e2
    · rw [e2]; exact e3
    · rw [e2]; exact e3
/-- a comprehension whose test and element leave the store as it is -/
theorem lcL_pure {α : Type} {enc : α → D} {g : SG} {c : SB} {el : SE} {env : Ev} {S : Store} (p : α → Bool) (f : α → D) : ∀ (as : List α) (acc : List D),
    (∀ a ∈ as, ∃ env1, g (enc a) env = some env1 ∧ c env1 S = .ok (p a) S ∧ (p a = true → el env1 S = .ok (f a) S)) → acc.length + as.length ≤ sizeLine →
    lcL g c el env (as.map enc) acc S = .ok (acc ++ (as.filter p).map f) S
  | [], acc, _, _ => by simp [lcL]
  | a :: r, acc, h, hl => by
    obtain ⟨env1, e1, e2, e3⟩ := h a List.mem_cons_self
    have hl' : acc.length + (r.length + 1) ≤ sizeLine := by simpa using hl
    rw [List.map_cons]
    unfold lcL
    rw [e1]
    dsimp only
    rw [e2]
    simp only [noX, R.bind_ok]
    cases q : p a with
    | true =>
      rw [if_pos rfl, e3 q]
      simp only [R.bind_ok]
      rw [if_pos (by omega), lcL_pure p f r (acc ++ [f a]) (fun b hb => h b (List.mem_cons_of_mem _ hb)) (by rw [List.length_append, List.length_singleton]; omega), List.filter_cons, if_pos q, List.map_cons, List.append_assoc]
      rfl
    | false =>
      rw [if_neg Bool.false_ne_true, lcL_pure p f r acc (fun b hb => h b (List.mem_cons_of_mem _ hb)) (by omega), List.filter_cons, if_neg (by rw [q]; exact Bool.false_ne_true)]
/-- a while that is left: measure -/
theorem whileL_go {c : SB} {u : SS} (R : Nat → Ev → Store → Prop) (fin : Ev → Store → Prop) (st : ∀ m env S, R m env S → (c env S = .ok false S ∧ fin env S) ∨ ∃ S1 env2 S2 m', c env S = .ok true S1 ∧ (u env S1 = .nx env2 S2 ∨ u env S1 = .ct env2 S2) ∧ m' < m ∧ R m' env2 S2) :
    ∀ (k m : Nat) (env : Ev) (S : Store), m < k → R m env S → ∃ env' S', whileL c u k env S = .nx env' S' ∧ fin env' S'
  | 0, m, env, S, h, _ => absurd h (Nat.not_lt_zero _)
  | k + 1, m, env, S, h, hR => by
    rcases st m env S hR with ⟨e, f⟩ | ⟨S1, env2, S2, m', e1, e2, hm, h2⟩
    · refine ⟨env, S, ?_, f⟩
      unfold whileL
      rw [e]
      rfl
    · obtain ⟨env', S', e3, f⟩ := whileL_go R fin st k m' env2 S2 (by omega) h2
      refine ⟨env', S', ?_, f⟩
      unfold whileL
      rw [e1]
      dsimp only [Hx.R.bindS]
      rw [if_pos rfl]
      rcases e2 with e2 | e2
      · rw [e2]; exact e3
      · rw [e2]; exact e3

/-! ### cuts -/
/-- nothing but the objects from m on is referred to below m -/
theorem okS_self : ∀ (m : Nat) (S T : Store), okS m S (S ++ T) = true
  | m, [], T => by simp [okS]
  | m, a :: r, T => by
    rw [List.cons_append]
    simp [okS, okS_self m r T]
theorem cutR_ok {S : Store} {d d' : D} {T : Store} (h : frz S.length (S ++ T) d = some d') : cutR S (.ok d (S ++ T)) = .ok d' S := by
  unfold cutR
  dsimp only
  rw [if_pos (okS_self _ _ _), h]
  dsimp only
  rw [List.take_left]
theorem cutR_pure {S : Store} {d : D} (h : d.pure = true) : cutR S (.ok d S) = .ok d S := by
  have := cutR_ok (S := S) (T := []) (d := d) (frz_pure h)
  rw [List.append_nil] at this
  exact this
/-! ### words, opt -/
def dInts (ns : List Int) : List D := ns.map .int
def dW (ns : List Int) : D := .tup (ns.map .int)
def dO : Option Int → D
  | none => .non
  | some i => .int i
theorem pureL_ints : ∀ ns : List Int, D.pureL (ns.map .int) = true
  | [] => rfl
  | n :: r => by
    show (D.pure (.int n) && D.pureL (r.map .int)) = true
    rw [pureL_ints r]
    rfl
theorem dW_pure (ns : List Int) : (dW ns).pure = true := by
  unfold dW
  rw [D.pure]
  exact pureL_ints ns
theorem dO_pure : ∀ o : Option Int, (dO o).pure = true
  | none => rfl
  | some _ => rfl
end Hx
set_option Elab.async false
set_option linter.all false
set_option maxRecDepth 100000
set_option maxHeartbeats 1000000
/-! QA: more lemmas for running the plain functions: defs, new objects, words of numbers sorted. -/
namespace Hx
open PySem PySem.Spec PySem.W PyProof.Rows L2

theorem fn_run {u : SS} {ar n : Nat} {ds : List D} {S S' : Store} {d : D} (hl : ds.length = ar) (hu : u (ds.map some ++ List.replicate (n - ar) none) S = .rt d S') : defF ar n u ds S = .ok d S' := by
  unfold defF
  rw [if_pos hl, hu]
theorem fn_cut {u : SS} {ar n : Nat} {ds : List D} {S T : Store} {d d' : D} (hl : ds.length = ar) (hu : u (ds.map some ++ List.replicate (n - ar) none) S = .rt d (S ++ T)) (hf : frz S.length (S ++ T) d = some d') : cutF (defF ar n u) ds S = .ok d' S := by
  unfold cutF
  rw [fn_run hl hu]
  exact cutR_ok hf
theorem fn_pure {u : SS} {ar n : Nat} {ds : List D} {S : Store} {d : D} (hl : ds.length = ar) (hu : u (ds.map some ++ List.replicate (n - ar) none) S = .rt d S) (hp : d.pure = true) : cutF (defF ar n u) ds S = .ok d S := by
  unfold cutF
  rw [fn_run hl hu]
  exact cutR_pure hp
theorem fn_pureT {u : SS} {ar n : Nat} {ds : List D} {S T : Store} {d : D} (hl : ds.length = ar) (hu : u (ds.map some ++ List.replicate (n - ar) none) S = .rt d (S ++ T)) (hp : d.pure = true) : cutF (defF ar n u) ds S = .ok d S :=
  fn_cut hl hu (frz_pure hp)
theorem sq_nx {f g : SS} {env env' : Ev} {S S' : Store} {r : SR} (h : f env S = .nx env' S') (h2 : g env' S' = r) : sSeq f g env S = r := by
  unfold sSeq
  rw [h]
  exact h2
theorem sq_rt {f g : SS} {env : Ev} {S S' : Store} {d : D} (h : f env S = .rt d S') : sSeq f g env S = .rt d S' := by
  unfold sSeq
  rw [h]
theorem for_nx {f : SA} {g : SG} {u : SS} {env env' : Ev} {S S1 S' : Store} {ds : List D} (h : f env S = .ok ds S1) (h2 : forL g u ds env S1 = .nx env' S') : sFor f g u env S = .nx env' S' := by
  unfold sFor
  rw [h]
  exact h2
/-! ### new objects -/
theorem get_new (S : Store) (x : D) : (S ++ [x])[S.length]? = some x := by simp
theorem set_new (S : Store) (x y : D) : (S ++ [x]).set S.length y = S ++ [y] := by simp
theorem get_pre {S T : Store} {i : Nat} {x : D} (h : S[i]? = some x) : (S ++ T)[i]? = some x := by
  rw [List.getElem?_append_left (List.getElem?_eq_some_iff.mp h).1]
  exact h
theorem set_pre {S T : Store} {i : Nat} (h : i < S.length) (x : D) : (S ++ T).set i x = S.set i x ++ T := by
  rw [List.set_append_left _ _ h]
theorem frz_lst {m : Nat} {S : Store} {i : Nat} {xs : List D} (h : S[i]? = some (.lst xs)) (hm : m ≤ i) (hp : D.pureL xs = true) : frz m S (.obj i) = some (.lst xs) := by
  unfold frz
  show deep m S 3 i = _
  have n : ¬ i < m := by omega
  have hp' : (D.lst xs).pure = true := by rw [D.pure]; exact hp
  unfold deep
  rw [if_neg n, h]
  exact D.sub_pure _ _ hp'
theorem pureL_of {xs : List D} (h : ∀ x ∈ xs, x.pure = true) : D.pureL xs = true := by
  induction xs with
  | nil => rfl
  | cons a r ih =>
    rw [D.pureL, h a List.mem_cons_self, ih fun x hx => h x (List.mem_cons_of_mem _ hx)]
    rfl
theorem pure_lst {xs : List D} (h : ∀ x ∈ xs, x.pure = true) : (D.lst xs).pure = true := by rw [D.pure]; exact pureL_of h
theorem pure_tup {xs : List D} (h : ∀ x ∈ xs, x.pure = true) : (D.tup xs).pure = true := by rw [D.pure]; exact pureL_of h
theorem pure_map {α : Type} {l : List α} {f : α → D} (h : ∀ a ∈ l, (f a).pure = true) : ∀ x ∈ l.map f, x.pure = true := fun x hx => by
  obtain ⟨a, ha, rfl⟩ := List.mem_map.mp hx
  exact h a ha
theorem append_ok {S : Store} {i : Nat} {xs : List D} (y : D) (h : S[i]? = some (.lst xs)) (hl : xs.length < sizeLine) : mtAppend (.obj i) [y] S = .ok .non (S.set i (.lst (xs ++ [y]))) := by
  unfold mtAppend onL
  simp only [h, hl, if_true]
theorem extend_ok {S : Store} {i : Nat} {xs zs : List D} {y : D} (h : S[i]? = some (.lst xs)) (hy : conL S y = some zs) (hl : xs.length + zs.length ≤ sizeLine) : mtExtend (.obj i) [y] S = .ok .non (S.set i (.lst (xs ++ zs))) := by
  unfold mtExtend onL
  simp only [hy, h, hl, if_true]
theorem ckL_ok {S : Store} {i : Nat} {xs : List D} (h : S[i]? = some (.lst xs)) : ckL S (.obj i) = true := by
  simp only [ckL, conL, h, Option.isSome]
theorem seq_obj {S : Store} {i : Nat} {xs : List D} (h : S[i]? = some (.lst xs)) : seqL S (.obj i) = some xs := by
  simp only [seqL, conL, h]
theorem con_obj {S : Store} {i : Nat} {xs : List D} (h : S[i]? = some (.lst xs)) : conL S (.obj i) = some xs := by
  simp only [conL, h]
/-! ### words of numbers, sorted -/
def pyW (w : List Int) : PyData := .tuple (w.map .int)
def leW (a b : List Int) : Bool := !dataLt (pyW b) (pyW a)
def srtW (l : List (List Int)) : List (List Int) := l.mergeSort leW
theorem leW_eq (a b : List Int) : leW a b = !decide (b < a) := by
  unfold leW
  rw [show dataLt (pyW b) (pyW a) = decide (b < a) from (dataLt_tuple _ _).trans (dataLt_ints b a)]
theorem leW_trans (a b c : List Int) (h1 : leW a b = true) (h2 : leW b c = true) : leW a c = true :=
  (sortLe_total (listOrd itemOrd) false fun b => keyToks (pyW b)).trans a b c h1 h2
theorem leW_total (a b : List Int) : (leW a b || leW b a) = true := by
  rcases (sortLe_total (listOrd itemOrd) false fun b => keyToks (pyW b)).total a b with h | h
  · rw [show leW a b = true from h]; rfl
  · rw [show leW b a = true from h, Bool.or_true]
theorem leW_anti (a b : List Int) (h1 : leW a b = true) (h2 : leW b a = true) : a = b := by
  rw [leW_eq, Bool.not_eq_true', decide_eq_false_iff_not] at h1 h2
  exact List.le_antisymm (List.not_lt.mp h1) (List.not_lt.mp h2)
theorem srtW_perm (l : List (List Int)) : (srtW l).Perm l := List.mergeSort_perm l leW
theorem srtW_congr {l m : List (List Int)} (h : l.Perm m) : srtW l = srtW m :=
  List.Perm.eq_of_pairwise (le := fun a b => leW a b = true) (fun a b _ _ => leW_anti a b) (List.pairwise_mergeSort leW_trans leW_total l) (List.pairwise_mergeSort leW_trans leW_total m) (((srtW_perm l).trans h).trans (srtW_perm m).symm)
theorem mem_srtW {l : List (List Int)} {w : List Int} : w ∈ srtW l ↔ w ∈ l := (srtW_perm l).mem_iff
theorem srtW_nodup {l : List (List Int)} (h : l.Nodup) : (srtW l).Nodup := (srtW_perm l).nodup_iff.mpr h
theorem srtW_len (l : List (List Int)) : (srtW l).length = l.length := (srtW_perm l).length_eq
theorem toPyL_ints (g : Nat → Option PyData) : ∀ w : List Int, pyL g (w.map .int) = some (w.map .int)
  | [] => by simp [pyL]
  | a :: w => by simp only [List.map_cons, pyL, pyG, toPyL_ints g w]
theorem toPy_W (S : Store) (w : List Int) : toPy S (dW w) = some (pyW w) := by
  unfold toPy dW
  simp only [pyG, toPyL_ints, Option.map_some]
  rfl
theorem dPy_W (S : Store) (w : List Int) : dPy S (dW w) = pyW w := by
  unfold dPy
  rw [toPy_W]
  rfl
theorem sortD_W (S : Store) (l : List (List Int)) : sortD S (l.map dW) = (srtW l).map dW := by
  unfold sortD srtW
  refine (map_sort dW leW _ l fun a _ b _ => ?_).symm
  show leW a b = !dataLt (dPy S (dW b)) (dPy S (dW a))
  rw [dPy_W, dPy_W]
  rfl
theorem alike_ints : ∀ a b : List Int, alikeAll (a.map .int) (b.map .int) = true
  | [], _ => by simp [alikeAll]
  | _ :: _, [] => by simp [alikeAll]
  | _ :: a, _ :: b => by
    simp only [List.map_cons, alikeAll, alike, alike_ints a b, Bool.and_self]
theorem depth_ints : ∀ a : List Int, PyData.depthAll (a.map .int) = 0
  | [] => by simp [PyData.depthAll]
  | _ :: a => by
    simp only [List.map_cons, PyData.depthAll, PyData.depth, depth_ints a, Nat.max_self]
theorem sortOk_W (l : List (List Int)) (h : ∀ w ∈ l, w ≠ []) : sortOkB (l.map pyW) = true := by
  unfold sortOkB
  simp only [Bool.and_eq_true, Bool.or_eq_true, List.all_eq_true]
  refine ⟨⟨fun p hp q hq => ?_, .inl fun p hp => ?_⟩, fun p hp => ?_⟩
  · obtain ⟨a, _, rfl⟩ := List.mem_map.mp hp
    obtain ⟨b, _, rfl⟩ := List.mem_map.mp hq
    show alike (.tuple _) (.tuple _) = true
    rw [alike]
    exact alike_ints a b
  · obtain ⟨a, ha, rfl⟩ := List.mem_map.mp hp
    cases a with
    | nil => exact absurd rfl (h _ ha)
    | cons x r => rfl
  · obtain ⟨a, _, rfl⟩ := List.mem_map.mp hp
    rw [decide_eq_true_eq]
    show PyData.depth (.tuple _) ≤ 32
    rw [PyData.depth, depth_ints]
    decide
theorem sorted_list {S : Store} {x : D} {l : List (List Int)} (hx : conL S x = some (l.map dW)) (h : ∀ w ∈ l, w ≠ []) : opSorted FZ [x] S = .ok (.lst ((srtW l).map dW)) S := by
  have h1 : ((l.map dW).all fun d => (toPy S d).isSome) = true := by
    rw [List.all_eq_true]
    intro d hd
    obtain ⟨w, _, rfl⟩ := List.mem_map.mp hd
    rw [toPy_W]
    rfl
  have h2 : (l.map dW).map (dPy S) = l.map pyW := by
    rw [List.map_map]
    exact List.map_congr_left fun w _ => dPy_W S w
  unfold opSorted
  simp only [hx, h1, h2, sortOk_W l h, and_self, if_true, sortD_W, FZ]
/-! a dict whose keys are words -/
def kW (w : List Int) : List L2.Key := w.map .inl
theorem kW_inj {a b : List Int} (h : kW a = kW b) : a = b := by
  unfold kW at h
  exact (List.map_inj_right (f := (Sum.inl : Int → L2.Key)) fun x y e => Sum.inl.inj e).mp h
theorem of_kW (w : List Int) : (kW w).map ofKey = w.map .int := by
  unfold kW
  rw [List.map_map]
  rfl
theorem keyT_W (w : List Int) : keyT (dW w) = some (kW w) := by
  show keyL (w.map .int) = _
  rw [← of_kW, keyL_map]
theorem sorted_dict {S : Store} {x : D} {kvs : List (List L2.Key × D)} {l : List (List Int)} (hc : conL S x = none) (hk : dicK S x = none) (hx : dicT S x = some kvs) (hl : kvs.map (·.1) = l.map kW) (h : ∀ w ∈ l, w ≠ []) : opSorted FZ [x] S = .ok (.lst ((srtW l).map dW)) S := by
  have e : keysD S x = some (l.map dW) := by
    unfold keysD
    rw [hk, hx]
    dsimp only
    have : (kvs.map fun kv => D.tup (kv.1.map ofKey)) = (kvs.map (·.1)).map fun k => D.tup (k.map ofKey) := by rw [List.map_map]; rfl
    rw [this, hl, List.map_map]
    congr 1
    exact List.map_congr_left fun w _ => by
      show D.tup ((kW w).map ofKey) = dW w
      rw [of_kW]
      rfl
  have h1 : ((l.map dW).all fun d => (toPy S d).isSome) = true := by
    rw [List.all_eq_true]
    intro d hd
    obtain ⟨w, _, rfl⟩ := List.mem_map.mp hd
    rw [toPy_W]
    rfl
  have h2 : (l.map dW).map (dPy S) = l.map pyW := by
    rw [List.map_map]
    exact List.map_congr_left fun w _ => dPy_W S w
  unfold opSorted
  simp only [hc, e, h1, h2, sortOk_W l h, and_self, if_true, sortD_W, FZ]
/-! dicts -/
section
variable {κ β : Type} [DecidableEq κ]
theorem pt_keys (kvs : List (κ × β)) (k : κ) (v : β) : (pt kvs k v).map (·.1) = if k ∈ kvs.map (·.1) then kvs.map (·.1) else kvs.map (·.1) ++ [k] := by
  unfold pt
  have iff : (kvs.any fun kv => decide (kv.1 = k)) = true ↔ k ∈ kvs.map (·.1) := by
    rw [List.any_eq_true, List.mem_map]
    constructor
    · rintro ⟨p, h1, h2⟩
      exact ⟨p, h1, of_decide_eq_true h2⟩
    · rintro ⟨p, h1, h2⟩
      exact ⟨p, h1, decide_eq_true h2⟩
  by_cases h : k ∈ kvs.map (·.1)
  · rw [if_pos h, if_pos (iff.mpr h), List.map_map]
    refine List.map_congr_left fun p _ => ?_
    show (if p.1 = k then (p.1, v) else p).1 = p.1
    by_cases e : p.1 = k
    · rw [if_pos e]
    · rw [if_neg e]
  · rw [if_neg h, if_neg fun z => h (iff.mp z), List.map_append]
    rfl
theorem pt_nodup {kvs : List (κ × β)} (h : (kvs.map (·.1)).Nodup) (k : κ) (v : β) : ((pt kvs k v).map (·.1)).Nodup := by
  rw [pt_keys]
  by_cases e : k ∈ kvs.map (·.1)
  · rw [if_pos e]; exact h
  · rw [if_neg e, List.nodup_append]
    refine ⟨h, by simp, fun a ha b hb z => ?_⟩
    rw [List.mem_singleton] at hb
    rw [z, hb] at ha
    exact e ha
theorem pt_mem {kvs : List (κ × β)} {k x : κ} {v : β} : x ∈ (pt kvs k v).map (·.1) ↔ x ∈ kvs.map (·.1) ∨ x = k := by
  rw [pt_keys]
  by_cases e : k ∈ kvs.map (·.1)
  · rw [if_pos e]
    exact ⟨.inl, fun h => h.elim id fun z => z ▸ e⟩
  · rw [if_neg e, List.mem_append, List.mem_singleton]
theorem pt_len (kvs : List (κ × β)) (k : κ) (v : β) : (pt kvs k v).length ≤ kvs.length + 1 := by
  have : ((pt kvs k v).map (·.1)).length ≤ (kvs.map (·.1)).length + 1 := by
    rw [pt_keys]
    by_cases e : k ∈ kvs.map (·.1)
    · rw [if_pos e]; omega
    · rw [if_neg e, List.length_append]; exact Nat.le_refl _
  simpa using this
theorem lk_pt (kvs : List (κ × β)) (k x : κ) (v : β) : lk (pt kvs k v) x = if x = k then some v else lk kvs x := by
  induction kvs with
  | nil =>
    unfold pt lk
    by_cases e : x = k
    · simp [e]
    · simp [e, Ne.symm e]
  | cons p r ih =>
    unfold pt at ih ⊢
    rw [List.any_cons]
    by_cases e : p.1 = k
    · have e1 : (decide (p.1 = k) || r.any fun kv => decide (kv.1 = k)) = true := by simp [e]
      rw [if_pos e1, List.map_cons, if_pos e, lk_cons, lk_cons]
      by_cases z : x = k
      · rw [if_pos (by rw [e, z]), if_pos z]
      · have z' : ¬ p.1 = x := fun q => z (by rw [← q, e])
        rw [if_neg z', if_neg z, if_neg z']
        by_cases a : (r.any fun kv => decide (kv.1 = k)) = true
        · rw [if_pos a, if_neg z] at ih
          exact ih
        · have : r.map (fun kv => if kv.1 = k then (kv.1, v) else kv) = r := by
            conv => rhs; rw [← List.map_id r]
            refine List.map_congr_left fun q hq => ?_
            have : ¬ q.1 = k := fun w => a (List.any_eq_true.mpr ⟨q, hq, decide_eq_true w⟩)
            rw [if_neg this]
            rfl
          rw [this]
    · by_cases a : (r.any fun kv => decide (kv.1 = k)) = true
      · have e1 : (decide (p.1 = k) || r.any fun kv => decide (kv.1 = k)) = true := by simp [a]
        rw [if_pos e1, List.map_cons, if_neg e, lk_cons, lk_cons]
        rw [if_pos a] at ih
        rw [ih]
        by_cases z : p.1 = x
        · rw [if_pos z, if_pos z, if_neg (fun q => e (z.trans q))]
        · rw [if_neg z, if_neg z]
      · have e1 : ¬ (decide (p.1 = k) || r.any fun kv => decide (kv.1 = k)) = true := by simp [a, e]
        rw [if_neg e1, List.cons_append, lk_cons, lk_cons]
        rw [if_neg a] at ih
        rw [ih]
        by_cases z : p.1 = x
        · rw [if_pos z, if_pos z, if_neg (fun q => e (z.trans q))]
        · rw [if_neg z, if_neg z]
theorem lk_none {kvs : List (κ × β)} {k : κ} : lk kvs k = none ↔ k ∉ kvs.map (·.1) := by
  induction kvs with
  | nil => simp [lk]
  | cons p r ih =>
    rw [lk_cons, List.map_cons, List.mem_cons]
    by_cases e : p.1 = k
    · rw [if_pos e]
      simp [e]
    · rw [if_neg e, ih]
      exact ⟨fun h q => q.elim (fun z => e z.symm) h, fun h z => h (.inr z)⟩
theorem lk_mem {kvs : List (κ × β)} {k : κ} {v : β} (h : lk kvs k = some v) : (k, v) ∈ kvs := by
  induction kvs with
  | nil => cases h
  | cons p r ih =>
    rw [lk_cons] at h
    by_cases e : p.1 = k
    · rw [if_pos e] at h
      cases h
      rw [← e]
      exact List.mem_cons_self
    · rw [if_neg e] at h
      exact List.mem_cons_of_mem _ (ih h)
theorem lk_of_mem {kvs : List (κ × β)} (hn : (kvs.map (·.1)).Nodup) {k : κ} {v : β} (h : (k, v) ∈ kvs) : lk kvs k = some v := by
  induction kvs with
  | nil => simp at h
  | cons p r ih =>
    rw [List.map_cons, List.nodup_cons] at hn
    rw [lk_cons]
    rcases List.mem_cons.mp h with rfl | h
    · rw [if_pos rfl]
    · have ne : ¬ p.1 = k := fun z => hn.1 (by rw [z]; exact List.mem_map_of_mem (f := fun q : κ × β => q.1) h)
      rw [if_neg ne, ih hn.2 h]
theorem mg_spec : ∀ (more acc : List (κ × β)), (acc.map (·.1)).Nodup → ((mg acc more).map (·.1)).Nodup ∧ (∀ k, k ∈ (mg acc more).map (·.1) ↔ k ∈ acc.map (·.1) ∨ k ∈ more.map (·.1)) ∧ (mg acc more).length ≤ acc.length + more.length
  | [], acc, h => ⟨h, fun k => by simp [mg], by simp [mg]⟩
  | p :: r, acc, h => by
    obtain ⟨h1, h2, h3⟩ := mg_spec r (pt acc p.1 p.2) (pt_nodup h _ _)
    refine ⟨h1, fun k => (h2 k).trans ?_, ?_⟩
    · rw [pt_mem, List.map_cons, List.mem_cons, or_assoc]
    · have := pt_len acc p.1 p.2
      have h3' : (mg acc (p :: r)).length ≤ _ := h3
      rw [List.length_cons]
      omega
end
theorem pairsT_W {β : Type} (f : β → D) : ∀ l : List (List Int × β), pairsT (l.map fun p => .tup [dW p.1, f p.2]) = some (l.map fun p => (kW p.1, f p.2))
  | [] => rfl
  | p :: l => by
    simp only [List.map_cons, pairsT, keyT_W, pairsT_W f l]
end Hx
set_option Elab.async false
set_option linter.all false
set_option maxRecDepth 100000
set_option maxHeartbeats 1000000
/-! QB: loops in a row of statements. -/
namespace Hx
open PySem PySem.Spec PySem.W PyProof.Rows L2

theorem forL_inv {α : Type} {enc : α → D} {g : SG} {u : SS} (as : List α) (R : List α → Ev → Store → Prop)
    (st : ∀ pre a post env S, as = pre ++ a :: post → R pre env S → ∃ env1 env2 S2, g (enc a) env = some env1 ∧ (u env1 S = .nx env2 S2 ∨ u env1 S = .ct env2 S2) ∧ R (pre ++ [a]) env2 S2) :
    ∀ (post pre : List α) (env : Ev) (S : Store), as = pre ++ post → R pre env S → ∃ env' S', forL g u (post.map enc) env S = .nx env' S' ∧ R as env' S'
  | [], pre, env, S, e, h => ⟨env, S, rfl, by rw [e, List.append_nil]; exact h⟩
  | a :: r, pre, env, S, e, h => by
    obtain ⟨env1, env2, S2, e1, e2, h2⟩ := st pre a r env S e h
    obtain ⟨env', S', e3, h3⟩ := forL_inv as R st r (pre ++ [a]) env2 S2 (by rw [e, List.append_assoc]; rfl) h2
    refine ⟨env', S', ?_, h3⟩
    rw [List.map_cons]
    unfold forL
    rw [e1]
    dsimp only
    rcases e2 with e2 | e2
    · rw [e2]; exact e3
    · rw [e2]; exact e3
theorem sq_for {α : Type} {f : SA} {g : SG} {u k : SS} {env : Ev} {S S1 : Store} {r : SR} (enc : α → D) (as : List α) (R : List α → Ev → Store → Prop) (hf : f env S = .ok (as.map enc) S1) (h0 : R [] env S1)
    (st : ∀ pre a post env S, as = pre ++ a :: post → R pre env S → ∃ env1 env2 S2, g (enc a) env = some env1 ∧ u env1 S = .nx env2 S2 ∧ R (pre ++ [a]) env2 S2)
    (fin : ∀ env' S', R as env' S' → k env' S' = r) : sSeq (sFor f g u) k env S = r := by
  obtain ⟨env', S', e, h⟩ := forL_inv (enc := enc) (g := g) (u := u) as R (fun pre a post env S e h => by
    obtain ⟨env1, env2, S2, e1, e2, h2⟩ := st pre a post env S e h
    exact ⟨env1, env2, S2, e1, .inl e2, h2⟩) as [] env S1 rfl h0
  exact sq_nx (for_nx hf e) (fin env' S' h)
/-- by numbers -/
theorem forL_num {g : SG} {u : SS} (ds : List D) (R : Nat → Ev → Store → Prop)
    (st : ∀ i d env S, ds[i]? = some d → R i env S → ∃ env1 env2 S2, g d env = some env1 ∧ u env1 S = .nx env2 S2 ∧ R (i + 1) env2 S2) :
    ∀ (k : Nat) (env : Ev) (S : Store), k ≤ ds.length → R k env S → ∃ env' S', forL g u (ds.drop k) env S = .nx env' S' ∧ R ds.length env' S' := fun k env S hk h => by
  by_cases e : k = ds.length
  · subst e
    rw [List.drop_length]
    exact ⟨env, S, rfl, h⟩
  · have hl : k < ds.length := by omega
    obtain ⟨env1, env2, S2, e1, e2, h2⟩ := st k ds[k] env S (List.getElem?_eq_getElem hl) h
    obtain ⟨env', S', e3, h3⟩ := forL_num ds R st (k + 1) env2 S2 hl h2
    refine ⟨env', S', ?_, h3⟩
    rw [List.drop_eq_getElem_cons hl]
    unfold forL
    rw [e1]
    dsimp only
    rw [e2]
    exact e3
  termination_by k => ds.length - k
theorem sq_forN {f : SA} {g : SG} {u k : SS} {env : Ev} {S S1 : Store} {r : SR} (ds : List D) (R : Nat → Ev → Store → Prop) (hf : f env S = .ok ds S1) (h0 : R 0 env S1)
    (st : ∀ i d env S, ds[i]? = some d → R i env S → ∃ env1 env2 S2, g d env = some env1 ∧ u env1 S = .nx env2 S2 ∧ R (i + 1) env2 S2)
    (fin : ∀ env' S', R ds.length env' S' → k env' S' = r) : sSeq (sFor f g u) k env S = r := by
  obtain ⟨env', S', e, h⟩ := forL_num (g := g) (u := u) ds R st 0 env S1 (Nat.zero_le _) h0
  rw [List.drop_zero] at e
  exact sq_nx (for_nx hf e) (fin env' S' h)
theorem sq_while {c : SB} {u k : SS} {env : Ev} {S : Store} {r : SR} (R : Nat → Ev → Store → Prop) (Fn : Ev → Store → Prop) (m : Nat) (hm : m < 1000000) (h0 : R m env S)
    (st : ∀ m env S, R m env S → (c env S = .ok false S ∧ Fn env S) ∨ ∃ S1 env2 S2 m', c env S = .ok true S1 ∧ u env S1 = .nx env2 S2 ∧ m' < m ∧ R m' env2 S2)
    (fin : ∀ env' S', Fn env' S' → k env' S' = r) : sSeq (sWhile c u) k env S = r := by
  obtain ⟨env', S', e, h⟩ := whileL_go (c := c) (u := u) R Fn (fun m env S hR => by
    rcases st m env S hR with z | ⟨S1, env2, S2, m', e1, e2, h2, h3⟩
    · exact .inl z
    · exact .inr ⟨S1, env2, S2, m', e1, .inl e2, h2, h3⟩) turns m env S hm h0
  exact sq_nx (show sWhile c u env S = _ from e) (fin env' S' h)
theorem sWhile_go {c : SB} {u : SS} {env : Ev} {S : Store} (R : Nat → Ev → Store → Prop) (Fn : Ev → Store → Prop) (m : Nat) (hm : m < 1000000) (h0 : R m env S)
    (st : ∀ m env S, R m env S → (c env S = .ok false S ∧ Fn env S) ∨ ∃ S1 env2 S2 m', c env S = .ok true S1 ∧ u env S1 = .nx env2 S2 ∧ m' < m ∧ R m' env2 S2) :
    ∃ env' S', sWhile c u env S = .nx env' S' ∧ Fn env' S' := by
  exact whileL_go (c := c) (u := u) R Fn (fun m env S hR => by
    rcases st m env S hR with z | ⟨S1, env2, S2, m', e1, e2, h2, h3⟩
    · exact .inl z
    · exact .inr ⟨S1, env2, S2, m', e1, .inl e2, h2, h3⟩) turns m env S hm h0
/-! sources -/
theorem srcV_ok {f : SE} {env : Ev} {S S1 : Store} {d : D} {ds : List D} (h : f env S = .ok d S1) (hd : stL d = some ds) : srcV f env S = .ok ds S1 := by
  unfold srcV
  rw [h]
  simp only [R.bind_ok, hd]
theorem srcE_ok {f : SE} {env : Ev} {S S1 : Store} {d : D} {ds : List D} (h : f env S = .ok d S1) (hd : stL d = some ds) : srcE f env S = .ok (enumD 0 ds) S1 := by
  unfold srcE
  rw [h]
  simp only [R.bind_ok, hd]
theorem srcR2_ok {f g : SE} {env : Ev} {S S1 S2 : Store} {a b : Int} {n : Nat} (h : f env S = .ok (.int a) S1) (h2 : g env S1 = .ok (.int b) S2) (ha : Hx.inR a = true) (hb : Hx.inR b = true) (hn : (b - a).toNat = n) : srcR2 f g env S = .ok ((List.range n).map fun i : Nat => D.int (a + i)) S2 := by
  unfold srcR2
  rw [h, R.bind_ok, h2, R.bind_ok]
  dsimp only
  rw [if_pos ⟨ha, hb⟩, hn]
  rfl
theorem inR_of (i : Int) (h : -1000000 ≤ i ∧ i ≤ 1000000) : Hx.inR i = true := decide_eq_true ⟨by omega, by omega⟩
theorem srcR1_of {f : SE} {env : Ev} {S S1 : Store} {a : Int} {n : Nat} (h : f env S = .ok (.int a) S1) (ha : Hx.inR a = true) (hn : a.toNat = n) : srcR1 f env S = .ok ((List.range n).map fun i : Nat => D.int (i : Int)) S1 := by
  unfold srcR1
  rw [h, R.bind_ok]
  dsimp only
  rw [if_pos ha, hn]
  unfold rangeD
  simp only [Int.zero_add]
theorem enum_at {k : Nat} : ∀ {ds : List D} {i : Nat} {d : D}, (enumD k ds)[i]? = some d → ∃ e, ds[i]? = some e ∧ d = .tup [.int ((k + i : Nat) : Int), e] := fun h => enumD_get k _ _ _ h
/-- a comprehension over things that lie beside one another -/
theorem lc_ok {α : Type} {fin : D → Store → R D} {src : SA} {g : SG} {vs : List Nat} {c : SB} {el : SE} {env : Ev} {S S1 : Store} {enc : α → D} {as : List α} (p : α → Bool) (f : α → D) (hs : src env S = .ok (as.map enc) S1)
    (h : ∀ a ∈ as, ∃ env1, g (enc a) (wipeE env vs) = some env1 ∧ c env1 S1 = .ok (p a) S1 ∧ (p a = true → el env1 S1 = .ok (f a) S1)) (hl : as.length ≤ sizeLine) :
    eLc fin src g vs c el env S = fin (.lst ((as.filter p).map f)) S1 := by
  unfold eLc
  rw [hs, R.bind_ok, lcL_pure p f as [] h (by simpa using hl), R.bind_ok]
  rfl
theorem lc_all {α : Type} {fin : D → Store → R D} {src : SA} {g : SG} {vs : List Nat} {el : SE} {env : Ev} {S S1 : Store} {enc : α → D} {as : List α} (f : α → D) (hs : src env S = .ok (as.map enc) S1)
    (h : ∀ a ∈ as, ∃ env1, g (enc a) (wipeE env vs) = some env1 ∧ el env1 S1 = .ok (f a) S1) (hl : as.length ≤ sizeLine) :
    eLc fin src g vs bYes el env S = fin (.lst (as.map f)) S1 := by
  rw [lc_ok (fun _ => true) f hs (fun a ha => ?_) hl, List.filter_eq_self.mpr fun _ _ => rfl]
  obtain ⟨env1, e1, e2⟩ := h a ha
  exact ⟨env1, e1, rfl, fun _ => e2⟩
theorem lc_fz {α : Type} {src : SA} {g : SG} {vs : List Nat} {el : SE} {env : Ev} {S S1 : Store} {enc : α → D} {as : List α} (f : α → D) (hs : src env S = .ok (as.map enc) S1)
    (h : ∀ a ∈ as, ∃ env1, g (enc a) (wipeE env vs) = some env1 ∧ el env1 S1 = .ok (f a) S1) (hl : as.length ≤ sizeLine) :
    eLc FZ src g vs bYes el env S = .ok (.lst (as.map f)) S1 := lc_all f hs h hl
theorem lc_fzp {α : Type} {src : SA} {g : SG} {vs : List Nat} {c : SB} {el : SE} {env : Ev} {S S1 : Store} {enc : α → D} {as : List α} (p : α → Bool) (f : α → D) (hs : src env S = .ok (as.map enc) S1)
    (h : ∀ a ∈ as, ∃ env1, g (enc a) (wipeE env vs) = some env1 ∧ c env1 S1 = .ok (p a) S1 ∧ (p a = true → el env1 S1 = .ok (f a) S1)) (hl : as.length ≤ sizeLine) :
    eLc FZ src g vs c el env S = .ok (.lst ((as.filter p).map f)) S1 := lc_ok p f hs h hl
theorem e2_ok {k : D → D → Store → R D} {f g : SE} {env : Ev} {S S1 S2 : Store} {a b : D} (h1 : f env S = .ok a S1) (h2 : g env S1 = .ok b S2) : e2 k f g env S = k a b S2 := by
  unfold Hx.e2
  rw [h1, R.bind_ok, h2, R.bind_ok]
theorem cb1_ok {k : List D → Store → R D} {f : SE} {env : Ev} {S S1 : Store} {a : D} (h1 : f env S = .ok a S1) : eCB k (aCons f aNil) env S = k [a] S1 := by
  simp only [eCB, aCons, aNil, h1, R.bind_ok]
theorem cb2_ok {k : List D → Store → R D} {f g : SE} {env : Ev} {S S1 S2 : Store} {a b : D} (h1 : f env S = .ok a S1) (h2 : g env S1 = .ok b S2) : eCB k (aCons f (aCons g aNil)) env S = k [a, b] S2 := by
  simp only [eCB, aCons, aNil, h1, h2, R.bind_ok]
theorem cb3_ok {k : List D → Store → R D} {f g h : SE} {env : Ev} {S S1 S2 S3 : Store} {a b c : D} (h1 : f env S = .ok a S1) (h2 : g env S1 = .ok b S2) (h3 : h env S2 = .ok c S3) : eCB k (aCons f (aCons g (aCons h aNil))) env S = k [a, b, c] S3 := by
  simp only [eCB, aCons, aNil, h1, h2, h3, R.bind_ok]
theorem set_ok {i : Nat} {f : SE} {env : Ev} {S S1 : Store} {d : D} (h : f env S = .ok d S1) : sSet i f env S = .nx (env.set i (some d)) S1 := by
  simp only [sSet, sAsg, h, R.bindS_ok, gN]
theorem ret_ok {f : SE} {env : Ev} {S S1 : Store} {d : D} (h : f env S = .ok d S1) : sRet f env S = .rt d S1 := by
  simp only [sRet, h, R.bindS_ok]
theorem bval_ok {f : SE} {env : Ev} {S S1 : Store} {b : Bool} (h : f env S = .ok (.bl b) S1) : bVal f env S = .ok b S1 := by
  simp only [bVal, h, R.bind_ok]
theorem if_yes {c : SB} {f g : SS} {env : Ev} {S S1 : Store} (h : c env S = .ok true S1) : sIf c f g env S = f env S1 := by
  simp only [sIf, h, R.bindS_ok, if_true]
theorem if_no {c : SB} {f g : SS} {env : Ev} {S S1 : Store} (h : c env S = .ok false S1) : sIf c f g env S = g env S1 := by
  simp only [sIf, h, R.bindS_ok, Bool.false_eq_true, if_false]
theorem eif_yes {c : SB} {f g : SE} {env : Ev} {S S1 : Store} (h : c env S = .ok true S1) : eIf c f g env S = f env S1 := by
  simp only [eIf, h, R.bind_ok, if_true]
theorem eif_no {c : SB} {f g : SE} {env : Ev} {S S1 : Store} (h : c env S = .ok false S1) : eIf c f g env S = g env S1 := by
  simp only [eIf, h, R.bind_ok, Bool.false_eq_true, if_false]
theorem mt1_ok {ck : Store → D → Bool} {k : D → List D → Store → R D} {f g : SE} {env : Ev} {S S1 S2 : Store} {a b : D} (h1 : f env S = .ok a S1) (hc : ck S1 a = true) (h2 : g env S1 = .ok b S2) : eMt ck k f (aCons g aNil) env S = k a [b] S2 := by
  simp only [eMt, aCons, aNil, h1, h2, R.bind_ok, hc, if_true]
theorem lst1_ok {fin : D → Store → R D} {f : SE} {env : Ev} {S S1 : Store} {a : D} (h1 : f env S = .ok a S1) : eLst fin (aCons f aNil) env S = fin (.lst [a]) S1 := by
  simp only [eLst, aCons, aNil, h1, R.bind_ok, List.length_cons, List.length_nil]
  rw [if_pos (by decide : (0 + 1 : Nat) ≤ sizeLine)]
theorem lst2_ok {fin : D → Store → R D} {f g : SE} {env : Ev} {S S1 S2 : Store} {a b : D} (h1 : f env S = .ok a S1) (h2 : g env S1 = .ok b S2) : eLst fin (aCons f (aCons g aNil)) env S = fin (.lst [a, b]) S2 := by
  simp only [eLst, aCons, aNil, h1, h2, R.bind_ok, List.length_cons, List.length_nil]
  rw [if_pos (by decide : (0 + 1 + 1 : Nat) ≤ sizeLine)]
theorem lst3_ok {fin : D → Store → R D} {f g h : SE} {env : Ev} {S S1 S2 S3 : Store} {a b c : D} (h1 : f env S = .ok a S1) (h2 : g env S1 = .ok b S2) (h3 : h env S2 = .ok c S3) : eLst fin (aCons f (aCons g (aCons h aNil))) env S = fin (.lst [a, b, c]) S3 := by
  simp only [eLst, aCons, aNil, h1, h2, h3, R.bind_ok, List.length_cons, List.length_nil]
  rw [if_pos (by decide : (0 + 1 + 1 + 1 : Nat) ≤ sizeLine)]
theorem notN_non (S : Store) : opNotN .non .non S = .ok (.bl false) S := by simp [opNotN]
theorem notN_int (i : Int) (S : Store) : opNotN (.int i) .non S = .ok (.bl true) S := by simp [opNotN]
theorem isN_non (S : Store) : opIsN .non .non S = .ok (.bl true) S := by simp [opIsN]
theorem isN_int (i : Int) (S : Store) : opIsN (.int i) .non S = .ok (.bl false) S := by simp [opIsN]
/-- an item put behind a list of the store -/
theorem app_st {f g : SE} {env : Ev} {S S1 : Store} {i : Nat} {xs : List D} {y : D} (h1 : f env S = .ok (.obj i) S) (hg : S[i]? = some (.lst xs)) (h2 : g env S = .ok y S1) (hg1 : S1[i]? = some (.lst xs)) (hl : xs.length < sizeLine) : sExpr (eMt ckL mtAppend f (aCons g aNil)) env S = .nx env (S1.set i (.lst (xs ++ [y]))) := by
  simp only [sExpr, mt1_ok h1 (ckL_ok hg) h2, append_ok y hg1 hl, R.bindS_ok]
theorem opIx_ok {ds : List D} {x d : D} {S : Store} {j : Nat} (hs : seqL S x = some ds) (h : ds[j]? = some d) : opIx x (.int (j : Int)) S = .ok d S := by
  unfold opIx
  rw [hs]
  dsimp only
  rw [atI_nat h]
theorem len_ok {S : Store} {d : D} {ds : List D} (h : seqL S d = some ds) : biLen [d] S = .ok (.int (ds.length : Nat)) S := by
  cases d with
  | str x => cases h
  | _ => unfold biLen; simp only [h]
end Hx
set_option Elab.async false
set_option linter.all false
/-! M1: edges that are folded; maps between them; words that are read. No program in sight. -/
namespace FG
abbrev ES := Int → Int → Int → Prop
/-- a sign leads on -/
def St (E : ES) (p s q : Int) : Prop := (0 < s ∧ E p s q) ∨ (s < 0 ∧ E q (-s) p)
def Fd (E : ES) : Prop := ∀ p s q q', St E p s q → St E p s q' → q = q'
def Wk (E : ES) : Int → List Int → Int → Prop
  | p, [], q => p = q
  | p, s :: w, q => ∃ r, St E p s r ∧ Wk E r w q
structure Hm (E D : ES) (g : Int → Int) : Prop where
  zero : g 0 = 0
  map : ∀ p a q, E p a q → D (g p) a (g q)
section
variable {E F D : ES} {g h : Int → Int}
theorem Hm.st (m : Hm E D g) {p s q : Int} : St E p s q → St D (g p) s (g q)
  | .inl ⟨h1, h2⟩ => .inl ⟨h1, m.map _ _ _ h2⟩
  | .inr ⟨h1, h2⟩ => .inr ⟨h1, m.map _ _ _ h2⟩
theorem Hm.wk (m : Hm E D g) : ∀ {w : List Int} {p q : Int}, Wk E p w q → Wk D (g p) w (g q)
  | [], _, _, e => congrArg g e
  | _ :: _, _, _, ⟨r, h1, h2⟩ => ⟨g r, m.st h1, m.wk h2⟩
theorem Hm.comp (m : Hm E F g) (n : Hm F D h) : Hm E D fun x => h (g x) := ⟨by show h (g 0) = 0; rw [m.zero, n.zero], fun p a q e => n.map _ _ _ (m.map p a q e)⟩
theorem Hm.id : Hm E E fun x => x := ⟨rfl, fun _ _ _ e => e⟩
theorem St.rev {p s q : Int} : St E p s q → St E q (-s) p
  | .inl ⟨h1, h2⟩ => .inr ⟨by omega, by rw [Int.neg_neg]; exact h2⟩
  | .inr ⟨h1, h2⟩ => .inl ⟨by omega, h2⟩
/-! ### walks -/
theorem Wk.app : ∀ {v w : List Int} {p q r : Int}, Wk E p v q → Wk E q w r → Wk E p (v ++ w) r
  | [], _, _, _, _, e, k => by
    cases e
    exact k
  | _ :: _, _, _, _, _, ⟨t, h1, h2⟩, k => ⟨t, h1, Wk.app h2 k⟩
theorem Wk.cut : ∀ {v w : List Int} {p r : Int}, Wk E p (v ++ w) r → ∃ q, Wk E p v q ∧ Wk E q w r
  | [], _, p, _, k => ⟨p, rfl, k⟩
  | _ :: _, _, _, _, ⟨t, h1, h2⟩ => by
    obtain ⟨q, a, b⟩ := Wk.cut h2
    exact ⟨q, ⟨t, h1, a⟩, b⟩
theorem Wk.rev : ∀ {w : List Int} {p q : Int}, Wk E p w q → Wk E q (w.reverse.map fun x => 0 - x) p
  | [], _, _, e => e.symm
  | s :: w, p, q, ⟨t, h1, h2⟩ => by
    rw [List.reverse_cons, List.map_append]
    refine Wk.app (Wk.rev h2) ⟨p, ?_, rfl⟩
    have := h1.rev
    show St E t (0 - s) p
    rw [Int.zero_sub]
    exact this
theorem Wk.det (f : Fd E) : ∀ {w : List Int} {p q q' : Int}, Wk E p w q → Wk E p w q' → q = q'
  | [], _, _, _, e, e' => e.symm.trans e'
  | _ :: _, _, _, _, ⟨t, h1, h2⟩, ⟨t', k1, k2⟩ => by
    cases f _ _ _ _ h1 k1
    exact Wk.det f h2 k2
/-- what cancels may go -/
theorem Wk.cancel (f : Fd E) {w : List Int} {p q : Int} {x y : Int} (h : x + y = 0) : Wk E p (x :: y :: w) q → Wk E p w q
  | ⟨t, h1, u, h2, h3⟩ => by
    have e : y = -x := by omega
    rw [e] at h2
    cases f _ _ _ _ h2 h1.rev
    exact h3
def Rch (E : ES) (p : Int) : Prop := ∃ w, Wk E 0 w p
theorem Hm.rch (m : Hm E D g) {p : Int} : Rch E p → Rch D (g p)
  | ⟨w, h⟩ => ⟨w, by
    have := m.wk h
    rwa [m.zero] at this⟩
theorem Rch.zero : Rch E 0 := ⟨[], rfl⟩
theorem Rch.on {p s q : Int} (h : Rch E p) (k : St E p s q) : Rch E q := by
  obtain ⟨w, h⟩ := h
  exact ⟨w ++ [s], h.app ⟨q, k, rfl⟩⟩
/-! ### to make two places one -/
def mrg (a b x : Int) : Int := if x = b then a else x
def Mg (E : ES) (a b : Int) : ES := fun p c q => ∃ p' q', E p' c q' ∧ p = mrg a b p' ∧ q = mrg a b q'
def Cp (E : ES) (a b : Int) : Prop := ∃ p s, St E p s a ∧ St E p s b
theorem Cp.symm {a b : Int} : Cp E a b → Cp E b a
  | ⟨p, s, h, k⟩ => ⟨p, s, k, h⟩
theorem mg_hm {a b : Int} (hb : b ≠ 0) : Hm E (Mg E a b) (mrg a b) := ⟨if_neg hb.symm, fun p c q e => ⟨p, q, e, rfl, rfl⟩⟩
theorem mg_univ {a b : Int} (c : Cp E a b) (f : Fd D) (m : Hm E D g) : Hm (Mg E a b) D g := ⟨m.zero, fun p s q ⟨p', q', e, e1, e2⟩ => by
  obtain ⟨r, t, k1, k2⟩ := c
  have e3 : g a = g b := f _ _ _ _ (m.st k1) (m.st k2)
  have key : ∀ x, g (mrg a b x) = g x := fun x => by
    unfold mrg
    by_cases q : x = b
    · rw [if_pos q, q, e3]
    · rw [if_neg q]
  rw [e1, e2, key, key]
  exact m.map _ _ _ e⟩
/-- what comes of folds, of whichever -/
structure Qt (E F : ES) : Prop where
  to : ∃ h, Hm E F h ∧ ∀ p a q, F p a q → ∃ p' q', E p' a q' ∧ h p' = p ∧ h q' = q
  un : ∀ (D : ES) (g : Int → Int), Fd D → Hm E D g → Hm F D g
theorem Qt.refl : Qt E E := ⟨⟨fun x => x, Hm.id, fun p a q e => ⟨p, q, e, rfl, rfl⟩⟩, fun _ _ _ m => m⟩
theorem Qt.step (k : Qt E F) {a b : Int} (c : Cp F a b) (hb : b ≠ 0) : Qt E (Mg F a b) := by
  obtain ⟨h, m, s⟩ := k.to
  refine ⟨⟨fun x => mrg a b (h x), m.comp (mg_hm hb), fun p c q ⟨p', q', e, e1, e2⟩ => ?_⟩, fun D g f n => mg_univ c f (k.un D g f n)⟩
  obtain ⟨p2, q2, e3, rfl, rfl⟩ := s _ _ _ e
  exact ⟨p2, q2, e3, e1.symm, e2.symm⟩
def Cn (E : ES) : Prop := ∀ p a q, E p a q → Rch E p ∧ Rch E q
theorem Qt.cn (k : Qt E F) (c : Cn E) : Cn F := by
  obtain ⟨h, m, s⟩ := k.to
  intro p a q e
  obtain ⟨p', q', e', rfl, rfl⟩ := s p a q e
  exact ⟨m.rch (c _ _ _ e').1, m.rch (c _ _ _ e').2⟩
theorem Qt.lt (k : Qt E F) {n : Int} (c : ∀ p a q, E p a q → 0 < a ∧ a ≤ n) : ∀ p a q, F p a q → 0 < a ∧ a ≤ n := by
  obtain ⟨h, m, s⟩ := k.to
  intro p a q e
  obtain ⟨p', q', e', rfl, rfl⟩ := s p a q e
  exact c _ _ _ e'
theorem Qt.two {F' : ES} (k : Qt E F) (k' : Qt E F') (f : Fd F') : ∃ g, Hm F F' g := by
  obtain ⟨h, m, _⟩ := k'.to
  exact ⟨h, k.un _ _ f m⟩
end
/-! ### the graph, numbered -/
def ext (sg : List Int) (on : Int → Option Int) (l : List Int) : List Int := sg.foldl (fun l s => match on s with
  | some q => if q ∈ l then l else l ++ [q]
  | none => l) l
def stage (sg : List Int) (on : Int → Int → Option Int) : Nat → List Int
  | 0 => [0]
  | k + 1 => match (stage sg on k)[k]? with
    | some p => ext sg (on p) (stage sg on k)
    | none => stage sg on k
section
variable {sg : List Int} {on : Int → Int → Option Int}
theorem ext_pre (on : Int → Option Int) : ∀ (sg : List Int) (l : List Int), ∃ r, ext sg on l = l ++ r
  | [], l => ⟨[], by simp [ext]⟩
  | s :: sg, l => by
    obtain ⟨r, e⟩ := ext_pre on sg (match on s with
      | some q => if q ∈ l then l else l ++ [q]
      | none => l)
    have e' : ext (s :: sg) on l = _ := e
    rw [e']
    cases on s with
    | none => exact ⟨r, rfl⟩
    | some q =>
      by_cases h : q ∈ l
      · exact ⟨r, by simp [h]⟩
      · exact ⟨q :: r, by simp [h]⟩
theorem ext_nodup (on : Int → Option Int) : ∀ (sg : List Int) (l : List Int), l.Nodup → (ext sg on l).Nodup
  | [], l, h => h
  | s :: sg, l, h => by
    have e : ext (s :: sg) on l = ext sg on (match on s with
      | some q => if q ∈ l then l else l ++ [q]
      | none => l) := rfl
    rw [e]
    refine ext_nodup on sg _ ?_
    cases on s with
    | none => exact h
    | some q =>
      by_cases z : q ∈ l
      · simp only [z, if_true]; exact h
      · simp only [z, if_false]
        rw [List.nodup_append]
        refine ⟨h, by simp, fun a ha b hb e => ?_⟩
        rw [List.mem_singleton] at hb
        rw [e, hb] at ha
        exact z ha
theorem mem_ext (on : Int → Option Int) : ∀ (sg : List Int) (l : List Int) (q : Int), q ∈ ext sg on l ↔ q ∈ l ∨ ∃ s ∈ sg, on s = some q
  | [], l, q => by simp [ext]
  | s :: sg, l, q => by
    have e : ext (s :: sg) on l = ext sg on (match on s with
      | some q => if q ∈ l then l else l ++ [q]
      | none => l) := rfl
    rw [e, mem_ext on sg]
    cases z : on s with
    | none => simp [z]
    | some x =>
      by_cases h : x ∈ l
      · simp only [h, if_true, List.mem_cons, exists_eq_or_imp, z, Option.some.injEq]
        constructor
        · rintro (k | k)
          · exact .inl k
          · exact .inr (.inr k)
        · rintro (k | k | k)
          · exact .inl k
          · exact .inl (k ▸ h)
          · exact .inr k
      · simp only [h, if_false, List.mem_append, List.mem_cons, List.not_mem_nil, or_false, exists_eq_or_imp, z, Option.some.injEq]
        constructor
        · rintro ((k | k) | k)
          · exact .inl k
          · exact .inr (.inl k.symm)
          · exact .inr (.inr k)
        · rintro (k | k | k)
          · exact .inl (.inl k)
          · exact .inl (.inr k.symm)
          · exact .inr k
theorem stage_pre1 (k : Nat) : ∃ r, stage sg on (k + 1) = stage sg on k ++ r := by
  show ∃ r, (match (stage sg on k)[k]? with
    | some p => ext sg (on p) (stage sg on k)
    | none => stage sg on k) = _
  cases (stage sg on k)[k]? with
  | none => exact ⟨[], by simp⟩
  | some p => exact ext_pre _ _ _
theorem stage_pre (k j : Nat) (h : k ≤ j) : ∃ r, stage sg on j = stage sg on k ++ r := by
  induction j with
  | zero => cases Nat.le_zero.mp h; exact ⟨[], by simp⟩
  | succ j ih =>
    by_cases e : k = j + 1
    · subst e; exact ⟨[], by simp⟩
    · obtain ⟨r, e1⟩ := ih (by omega)
      obtain ⟨t, e2⟩ := stage_pre1 (sg := sg) (on := on) j
      exact ⟨r ++ t, by rw [e2, e1, List.append_assoc]⟩
theorem stage_nodup : ∀ k : Nat, (stage sg on k).Nodup
  | 0 => by simp [stage]
  | k + 1 => by
    show (match (stage sg on k)[k]? with
      | some p => ext sg (on p) (stage sg on k)
      | none => stage sg on k).Nodup
    cases (stage sg on k)[k]? with
    | none => exact stage_nodup k
    | some p => exact ext_nodup _ _ _ (stage_nodup k)
theorem stage_zero (k : Nat) : ∃ r, stage sg on k = 0 :: r := by
  obtain ⟨r, e⟩ := stage_pre (sg := sg) (on := on) 0 k (Nat.zero_le k)
  exact ⟨r, e⟩
theorem stage_end {k : Nat} (h : (stage sg on k).length ≤ k) : ∀ j, k ≤ j → stage sg on j = stage sg on k
  | 0, hj => by cases Nat.le_zero.mp hj; rfl
  | j + 1, hj => by
    by_cases e : k = j + 1
    · rw [e]
    · have ih := stage_end h j (by omega)
      show (match (stage sg on j)[j]? with
        | some p => ext sg (on p) (stage sg on j)
        | none => stage sg on j) = _
      rw [ih, List.getElem?_eq_none (by omega)]
/-- all places are come to from those ahead -/
theorem stage_all (P : Int → Prop) (h0 : P 0) (hs : ∀ p s q, P p → s ∈ sg → on p s = some q → P q) : ∀ k : Nat, ∀ p ∈ stage sg on k, P p
  | 0, p, h => by
    rw [stage, List.mem_singleton] at h
    exact h ▸ h0
  | k + 1, q, h => by
    have ih := stage_all P h0 hs k
    rw [stage] at h
    cases e : (stage sg on k)[k]? with
    | none => rw [e] at h; exact ih q h
    | some p =>
      rw [e] at h
      have hp := ih p (List.mem_of_getElem? e)
      rcases (mem_ext _ _ _ _).mp h with z | ⟨s, hs1, z⟩
      · exact ih q z
      · exact hs p s q hp hs1 z
/-- what is done is closed -/
theorem stage_closed : ∀ (k : Nat) (i : Nat) (p : Int), i < k → (stage sg on k)[i]? = some p → ∀ s ∈ sg, ∀ q, on p s = some q → q ∈ stage sg on k
  | 0, i, _, h, _ => absurd h (Nat.not_lt_zero i)
  | k + 1, i, p, hi, e => by
    obtain ⟨r, er⟩ := stage_pre1 (sg := sg) (on := on) k
    intro s hs q hq
    by_cases z : i < (stage sg on k).length
    · have e1 : (stage sg on k)[i]? = some p := by
        rw [er, List.getElem?_append_left z] at e
        exact e
      by_cases y : i < k
      · rw [er]
        exact List.mem_append_left _ (stage_closed k i p y e1 s hs q hq)
      · have : i = k := by omega
        subst this
        show q ∈ (match (stage sg on i)[i]? with
          | some p => ext sg (on p) (stage sg on i)
          | none => stage sg on i)
        rw [e1]
        exact (mem_ext _ _ _ _).mpr (.inr ⟨s, hs, hq⟩)
    · have : stage sg on (k + 1) = stage sg on k := by
        show (match (stage sg on k)[k]? with
          | some p => ext sg (on p) (stage sg on k)
          | none => stage sg on k) = _
        rw [List.getElem?_eq_none (by omega)]
      rw [this] at e
      have := (List.getElem?_eq_some_iff.mp e).1
      omega
theorem stage_full {k : Nat} (h : (stage sg on k).length ≤ k) {p : Int} (hp : p ∈ stage sg on k) {s : Int} (hs : s ∈ sg) {q : Int} (hq : on p s = some q) : q ∈ stage sg on k := by
  obtain ⟨i, hi, e⟩ := List.mem_iff_getElem.mp hp
  exact stage_closed k i p (by omega) (by rw [List.getElem?_eq_getElem hi, e]) s hs q hq
end
/-- a list without repeats inside another one -/
theorem nodup_le {α : Type} [DecidableEq α] : ∀ {l m : List α}, l.Nodup → (∀ x ∈ l, x ∈ m) → l.length ≤ m.length
  | [], m, _, _ => Nat.zero_le _
  | a :: l, m, h, hs => by
    rw [List.nodup_cons] at h
    have ha := hs a List.mem_cons_self
    have := nodup_le (l := l) (m := m.erase a) h.2 fun x hx => by
      have : x ≠ a := fun z => h.1 (z ▸ hx)
      exact (List.mem_erase_of_ne this).mpr (hs x (List.mem_cons_of_mem _ hx))
    rw [List.length_erase_of_mem ha] at this
    have := List.length_pos_of_mem ha
    rw [List.length_cons]
    omega
theorem nodup_eq {α : Type} [DecidableEq α] {l m : List α} (h : l.Nodup) (k : m.Nodup) (hs : ∀ x, x ∈ l ↔ x ∈ m) : l.length = m.length :=
  Nat.le_antisymm (nodup_le h fun x hx => (hs x).mp hx) (nodup_le k fun x hx => (hs x).mpr hx)
theorem nodup_perm {α : Type} [DecidableEq α] : ∀ {l m : List α}, l.Nodup → m.Nodup → (∀ x, x ∈ l ↔ x ∈ m) → l.Perm m
  | [], m, _, _, hs => by
    have : m = [] := List.eq_nil_iff_forall_not_mem.mpr fun x hx => absurd ((hs x).mpr hx) (by simp)
    rw [this]
  | a :: l, m, h, k, hs => by
    rw [List.nodup_cons] at h
    have ha : a ∈ m := (hs a).mp List.mem_cons_self
    refine (List.Perm.cons a (nodup_perm h.2 (k.erase a) fun x => ?_)).trans (List.perm_cons_erase ha).symm
    rw [k.mem_erase_iff]
    constructor
    · intro hx
      exact ⟨fun z => h.1 (z ▸ hx), (hs x).mp (List.mem_cons_of_mem _ hx)⟩
    · rintro ⟨h1, h2⟩
      rcases List.mem_cons.mp ((hs x).mpr h2) with z | z
      · exact absurd z h1
      · exact z
end FG
set_option Elab.async false
set_option linter.all false
/-! M2: two folded lots of edges with maps both ways have one graph; counts; reading in a graph. -/
namespace FG
def Rd (E : ES) (on : Int → Int → Option Int) : Prop := ∀ p s q, on p s = some q ↔ St E p s q
abbrev Row := List (Option Nat × Option Nat)
def ix (line : List Int) (o : Option Int) : Option Nat := o.map fun q => line.idxOf q
def gr (acts : Nat) (on : Int → Int → Option Int) (line : List Int) : List Row :=
  line.map fun p => (List.range acts).map fun a : Nat => (ix line (on p ((a : Int) + 1)), ix line (on p (-((a : Int) + 1))))
def signs (acts : Nat) : List Int := (List.range acts).flatMap fun a : Nat => [(a : Int) + 1, -((a : Int) + 1)]
theorem mem_signs {acts : Nat} {s : Int} : s ∈ signs acts ↔ s ≠ 0 ∧ s.natAbs ≤ acts := by
  unfold signs
  rw [List.mem_flatMap]
  constructor
  · rintro ⟨a, h1, h2⟩
    rw [List.mem_range] at h1
    simp only [List.mem_cons, List.not_mem_nil, or_false] at h2
    omega
  · rintro ⟨h1, h2⟩
    refine ⟨s.natAbs - 1, List.mem_range.mpr (by omega), ?_⟩
    simp only [List.mem_cons, List.not_mem_nil, or_false]
    omega
section
variable {E1 E2 : ES} {on1 on2 : Int → Int → Option Int} {φ ψ : Int → Int}
theorem back (m1 : Hm E1 E2 φ) (m2 : Hm E2 E1 ψ) (f1 : Fd E1) {p : Int} (h : Rch E1 p) : ψ (φ p) = p := by
  obtain ⟨w, h⟩ := h
  have := (m1.comp m2).wk h
  rw [show ψ (φ 0) = 0 from (m1.comp m2).zero] at this
  exact Wk.det f1 this h
theorem on_map (m1 : Hm E1 E2 φ) (m2 : Hm E2 E1 ψ) (f1 : Fd E1) (r1 : Rd E1 on1) (r2 : Rd E2 on2) {p : Int} (h : Rch E1 p) (s : Int) : on2 (φ p) s = (on1 p s).map φ := by
  cases e : on1 p s with
  | some q => exact (r2 _ _ _).mpr (m1.st ((r1 _ _ _).mp e))
  | none =>
    cases e2 : on2 (φ p) s with
    | none => rfl
    | some q =>
      have := m2.st ((r2 _ _ _).mp e2)
      rw [back m1 m2 f1 h] at this
      rw [(r1 _ _ _).mpr this] at e
      cases e
theorem ext_map {P : Int → Prop} (inj : ∀ x y, P x → P y → φ x = φ y → x = y) (o1 o2 : Int → Option Int) : ∀ (sg : List Int) (l : List Int), (∀ x ∈ l, P x) → (∀ s, s ∈ sg → ∀ q, o1 s = some q → P q) → (∀ s, o2 s = (o1 s).map φ) → ext sg o2 (l.map φ) = (ext sg o1 l).map φ
  | [], l, _, _, _ => rfl
  | s :: sg, l, hl, ho, he => by
    have e1 : ext (s :: sg) o1 l = ext sg o1 (match o1 s with
      | some q => if q ∈ l then l else l ++ [q]
      | none => l) := rfl
    have e2 : ext (s :: sg) o2 (l.map φ) = ext sg o2 (match o2 s with
      | some q => if q ∈ l.map φ then l.map φ else l.map φ ++ [q]
      | none => l.map φ) := rfl
    rw [e1, e2, he s]
    cases z : o1 s with
    | none => exact ext_map inj o1 o2 sg l hl (fun t ht => ho t (List.mem_cons_of_mem _ ht)) he
    | some q =>
      have hq := ho s List.mem_cons_self q z
      have iff : φ q ∈ l.map φ ↔ q ∈ l := by
        rw [List.mem_map]
        constructor
        · rintro ⟨x, hx, e⟩
          exact inj _ _ (hl x hx) hq e ▸ hx
        · exact fun h => ⟨q, h, rfl⟩
      by_cases h : q ∈ l
      · simp only [Option.map_some, h, if_true, iff.mpr h]
        exact ext_map inj o1 o2 sg l hl (fun t ht => ho t (List.mem_cons_of_mem _ ht)) he
      · have h' : ¬ φ q ∈ l.map φ := fun z => h (iff.mp z)
        simp only [Option.map_some, h, h', if_false]
        have : l.map φ ++ [φ q] = (l ++ [q]).map φ := by rw [List.map_append]; rfl
        rw [this]
        refine ext_map inj o1 o2 sg (l ++ [q]) (fun x hx => ?_) (fun t ht => ho t (List.mem_cons_of_mem _ ht)) he
        rcases List.mem_append.mp hx with k | k
        · exact hl x k
        · rw [List.mem_singleton.mp k]; exact hq
theorem stage_rch (r1 : Rd E1 on1) (sg : List Int) (k : Nat) : ∀ p ∈ stage sg on1 k, Rch E1 p := stage_all (Rch E1) Rch.zero (fun p s q h _ e => h.on ((r1 _ _ _).mp e)) k
theorem stage_map (m1 : Hm E1 E2 φ) (m2 : Hm E2 E1 ψ) (f1 : Fd E1) (r1 : Rd E1 on1) (r2 : Rd E2 on2) (sg : List Int) : ∀ k, stage sg on2 k = (stage sg on1 k).map φ
  | 0 => by
    show [0] = [φ 0]
    rw [m1.zero]
  | k + 1 => by
    have ih := stage_map m1 m2 f1 r1 r2 sg k
    show (match (stage sg on2 k)[k]? with
      | some p => ext sg (on2 p) (stage sg on2 k)
      | none => stage sg on2 k) = (match (stage sg on1 k)[k]? with
      | some p => ext sg (on1 p) (stage sg on1 k)
      | none => stage sg on1 k).map φ
    rw [ih, List.getElem?_map]
    cases e : (stage sg on1 k)[k]? with
    | none => rfl
    | some p =>
      have hr := stage_rch r1 sg k
      have hp := hr p (List.mem_of_getElem? e)
      exact ext_map (P := Rch E1) (fun x y hx hy e => by rw [← back m1 m2 f1 hx, ← back m1 m2 f1 hy, e]) (on1 p) (on2 (φ p)) sg _ hr (fun s _ q e => hp.on ((r1 _ _ _).mp e)) (fun s => on_map m1 m2 f1 r1 r2 hp s)
theorem idxOf_map {P : Int → Prop} (inj : ∀ x y, P x → P y → φ x = φ y → x = y) : ∀ (l : List Int) (q : Int), (∀ x ∈ l, P x) → P q → (l.map φ).idxOf (φ q) = l.idxOf q
  | [], q, _, _ => rfl
  | a :: l, q, hl, hq => by
    rw [List.map_cons, List.idxOf_cons, List.idxOf_cons]
    by_cases e : a = q
    · subst e
      simp
    · have : φ a ≠ φ q := fun z => e (inj _ _ (hl a List.mem_cons_self) hq z)
      have h1 : (φ a == φ q) = false := by simpa using this
      have h2 : (a == q) = false := by simpa using e
      rw [h1, h2, idxOf_map inj l q (fun x hx => hl x (List.mem_cons_of_mem _ hx)) hq]
/-- one graph -/
theorem gr_one (m1 : Hm E1 E2 φ) (m2 : Hm E2 E1 ψ) (f1 : Fd E1) (r1 : Rd E1 on1) (r2 : Rd E2 on2) (acts : Nat) (sg : List Int) (k : Nat) : gr acts on2 (stage sg on2 k) = gr acts on1 (stage sg on1 k) := by
  have hr := stage_rch r1 sg k
  have inj : ∀ x y, Rch E1 x → Rch E1 y → φ x = φ y → x = y := fun x y hx hy e => by rw [← back m1 m2 f1 hx, ← back m1 m2 f1 hy, e]
  unfold gr
  rw [stage_map m1 m2 f1 r1 r2 sg k, List.map_map]
  refine List.map_congr_left fun p hp => ?_
  have hpr := hr p hp
  have key : ∀ s, ix ((stage sg on1 k).map φ) (on2 (φ p) s) = ix (stage sg on1 k) (on1 p s) := fun s => by
    unfold ix
    rw [on_map m1 m2 f1 r1 r2 hpr s]
    cases e : on1 p s with
    | none => rfl
    | some q =>
      show some (((stage sg on1 k).map φ).idxOf (φ q)) = some ((stage sg on1 k).idxOf q)
      rw [idxOf_map inj _ _ hr (hpr.on ((r1 _ _ _).mp e))]
  refine List.map_congr_left fun a _ => ?_
  show (ix _ (on2 (φ p) _), ix _ (on2 (φ p) _)) = _
  rw [key, key]
end
/-! ### counts -/
section
variable {E : ES} {on : Int → Int → Option Int} {acts : Nat} {line : List Int}
def tos (G : List Row) : Nat := (G.map fun row => row.countP fun b => b.1.isSome).sum
def froms (G : List Row) : Nat := (G.map fun row => row.countP fun b => b.2.isSome).sum
abbrev E3 := Int × Int × Int
def outs (acts : Nat) (on : Int → Int → Option Int) (p : Int) : List E3 := (List.range acts).filterMap fun a : Nat => (on p ((a : Int) + 1)).map fun q => (p, (a : Int) + 1, q)
def ins (acts : Nat) (on : Int → Int → Option Int) (q : Int) : List E3 := (List.range acts).filterMap fun a : Nat => (on q (-((a : Int) + 1))).map fun p => (p, (a : Int) + 1, q)
theorem filterMap_len {α β : Type} (f : α → Option β) : ∀ l : List α, (l.filterMap f).length = l.countP fun a => (f a).isSome
  | [] => rfl
  | a :: l => by
    cases e : f a with
    | none => rw [List.filterMap_cons_none e, List.countP_cons_of_neg (by rw [e]; exact Bool.false_ne_true), filterMap_len f l]
    | some b => rw [List.filterMap_cons_some e, List.countP_cons_of_pos (by rw [e]; rfl), List.length_cons, filterMap_len f l]
theorem tos_len : tos (gr acts on line) = (line.flatMap (outs acts on)).length := by
  unfold tos gr
  rw [List.length_flatMap, List.map_map]
  congr 1
  refine List.map_congr_left fun p _ => ?_
  show ((List.range acts).map _).countP _ = _
  rw [List.countP_map, outs, filterMap_len]
  congr 1
  funext a
  show (ix line (on p ((a : Int) + 1))).isSome = _
  unfold ix
  cases on p ((a : Int) + 1) <;> rfl
theorem froms_len : froms (gr acts on line) = (line.flatMap (ins acts on)).length := by
  unfold froms gr
  rw [List.length_flatMap, List.map_map]
  congr 1
  refine List.map_congr_left fun p _ => ?_
  show ((List.range acts).map _).countP _ = _
  rw [List.countP_map, ins, filterMap_len]
  congr 1
  funext a
  show (ix line (on p (-((a : Int) + 1)))).isSome = _
  unfold ix
  cases on p (-((a : Int) + 1)) <;> rfl
theorem range_nodup : ∀ n : Nat, (List.range n).Nodup := fun n => List.nodup_range
theorem nodup_filterMap {α β : Type} (f : α → Option β) (inj : ∀ a b c, f a = some c → f b = some c → a = b) : ∀ l : List α, l.Nodup → (l.filterMap f).Nodup
  | [], _ => List.nodup_nil
  | a :: l, h => by
    rw [List.nodup_cons] at h
    cases e : f a with
    | none => rw [List.filterMap_cons_none e]; exact nodup_filterMap f inj l h.2
    | some b =>
      rw [List.filterMap_cons_some e, List.nodup_cons]
      refine ⟨fun z => ?_, nodup_filterMap f inj l h.2⟩
      obtain ⟨x, hx, hf⟩ := List.mem_filterMap.mp z
      exact h.1 (inj a x b e hf ▸ hx)
theorem nodup_flatMap {α β : Type} (f : α → List β) (hf : ∀ a, (f a).Nodup) (dis : ∀ a b c, c ∈ f a → c ∈ f b → a = b) : ∀ l : List α, l.Nodup → (l.flatMap f).Nodup
  | [], _ => List.nodup_nil
  | a :: l, h => by
    rw [List.nodup_cons] at h
    rw [List.flatMap_cons, List.nodup_append]
    refine ⟨hf a, nodup_flatMap f hf dis l h.2, fun x hx y hy e => ?_⟩
    obtain ⟨b, hb, hb2⟩ := List.mem_flatMap.mp hy
    rw [← e] at hb2
    exact h.1 (dis a b x hx hb2 ▸ hb)
theorem mem_outs (r : Rd E on) {p : Int} {e : E3} : e ∈ outs acts on p ↔ e.1 = p ∧ 0 < e.2.1 ∧ e.2.1 ≤ acts ∧ E e.1 e.2.1 e.2.2 := by
  obtain ⟨x, a, q⟩ := e
  unfold outs
  rw [List.mem_filterMap]
  constructor
  · rintro ⟨n, h1, h2⟩
    rw [List.mem_range] at h1
    cases z : on p ((n : Int) + 1) with
    | none => rw [z] at h2; cases h2
    | some t =>
      rw [z] at h2
      cases h2
      have hs := (r _ _ _).mp z
      refine ⟨rfl, by show 0 < (n : Int) + 1; omega, by show (n : Int) + 1 ≤ acts; omega, ?_⟩
      rcases hs with ⟨_, h⟩ | ⟨h, _⟩
      · exact h
      · omega
  · rintro ⟨h1, h2, h3, h4⟩
    have h1' : x = p := h1
    have h2' : 0 < a := h2
    have h3' : a ≤ acts := h3
    subst h1'
    refine ⟨(a - 1).toNat, List.mem_range.mpr (by omega), ?_⟩
    have : (((a - 1).toNat : Nat) : Int) + 1 = a := by omega
    rw [this, (r x a q).mpr (.inl ⟨h2', h4⟩)]
    rfl
theorem mem_ins (r : Rd E on) {q : Int} {e : E3} : e ∈ ins acts on q ↔ e.2.2 = q ∧ 0 < e.2.1 ∧ e.2.1 ≤ acts ∧ E e.1 e.2.1 e.2.2 := by
  obtain ⟨p, a, x⟩ := e
  unfold ins
  rw [List.mem_filterMap]
  constructor
  · rintro ⟨n, h1, h2⟩
    rw [List.mem_range] at h1
    cases z : on q (-((n : Int) + 1)) with
    | none => rw [z] at h2; cases h2
    | some t =>
      rw [z] at h2
      cases h2
      have hs := (r _ _ _).mp z
      refine ⟨rfl, by show 0 < (n : Int) + 1; omega, by show (n : Int) + 1 ≤ acts; omega, ?_⟩
      rcases hs with ⟨h, _⟩ | ⟨_, h⟩
      · omega
      · rw [Int.neg_neg] at h; exact h
  · rintro ⟨h1, h2, h3, h4⟩
    have h1' : x = q := h1
    have h2' : 0 < a := h2
    have h3' : a ≤ acts := h3
    subst h1'
    refine ⟨(a - 1).toNat, List.mem_range.mpr (by omega), ?_⟩
    have : (((a - 1).toNat : Nat) : Int) + 1 = a := by omega
    rw [this, (r x (-a) p).mpr (.inr ⟨by omega, by rw [Int.neg_neg]; exact h4⟩)]
    rfl
theorem outs_nodup (p : Int) : (outs acts on p).Nodup := nodup_filterMap _ (fun a b c h k => by
  cases z : on p ((a : Int) + 1) with
  | none => rw [z] at h; cases h
  | some t =>
    rw [z] at h
    cases z2 : on p ((b : Int) + 1) with
    | none => rw [z2] at k; cases k
    | some t2 =>
      rw [z2] at k
      have h' : (p, (a : Int) + 1, t) = c := Option.some.inj h
      have k' : (p, (b : Int) + 1, t2) = c := Option.some.inj k
      rw [← k'] at h'
      have := congrArg (fun e : E3 => e.2.1) h'
      have : (a : Int) + 1 = (b : Int) + 1 := this
      omega) _ (range_nodup _)
theorem ins_nodup (p : Int) : (ins acts on p).Nodup := nodup_filterMap _ (fun a b c h k => by
  cases z : on p (-((a : Int) + 1)) with
  | none => rw [z] at h; cases h
  | some t =>
    rw [z] at h
    cases z2 : on p (-((b : Int) + 1)) with
    | none => rw [z2] at k; cases k
    | some t2 =>
      rw [z2] at k
      have h' : (t, (a : Int) + 1, p) = c := Option.some.inj h
      have k' : (t2, (b : Int) + 1, p) = c := Option.some.inj k
      rw [← k'] at h'
      have := congrArg (fun e : E3 => e.2.1) h'
      have : (a : Int) + 1 = (b : Int) + 1 := this
      omega) _ (range_nodup _)
/-- how many edges there are -/
theorem count_tos (r : Rd E on) (hl : line.Nodup) (hE : ∀ p a q, E p a q → p ∈ line ∧ q ∈ line ∧ 0 < a ∧ a ≤ (acts : Int)) {l : List E3} (hn : l.Nodup) (hm : ∀ e : E3, e ∈ l ↔ E e.1 e.2.1 e.2.2) : l.length = tos (gr acts on line) ∧ l.length = froms (gr acts on line) := by
  constructor
  · rw [tos_len]
    refine nodup_eq hn (nodup_flatMap _ (outs_nodup) (fun a b c h k => ?_) _ hl) fun e => ?_
    · rw [← ((mem_outs r).mp h).1, ((mem_outs r).mp k).1]
    · rw [hm, List.mem_flatMap]
      constructor
      · intro h
        obtain ⟨h1, h2, h3, h4⟩ := hE _ _ _ h
        exact ⟨e.1, h1, (mem_outs r).mpr ⟨rfl, h3, h4, h⟩⟩
      · rintro ⟨p, _, h⟩
        exact ((mem_outs r).mp h).2.2.2
  · rw [froms_len]
    refine nodup_eq hn (nodup_flatMap _ (ins_nodup) (fun a b c h k => ?_) _ hl) fun e => ?_
    · rw [← ((mem_ins r).mp h).1, ((mem_ins r).mp k).1]
    · rw [hm, List.mem_flatMap]
      constructor
      · intro h
        obtain ⟨h1, h2, h3, h4⟩ := hE _ _ _ h
        exact ⟨e.2.2, h2, (mem_ins r).mpr ⟨rfl, h3, h4, h⟩⟩
      · rintro ⟨p, _, h⟩
        exact ((mem_ins r).mp h).2.2.2
theorem sum_full (f : Row → Nat) (n : Nat) : ∀ G : List Row, (∀ row ∈ G, f row ≤ n) → (G.map f).sum ≤ n * G.length ∧ ((G.map f).sum = n * G.length → ∀ row ∈ G, f row = n)
  | [], _ => ⟨Nat.le_refl _, fun _ _ h => absurd h (by simp)⟩
  | r :: G, h => by
    obtain ⟨h1, h2⟩ := sum_full f n G fun row hr => h row (List.mem_cons_of_mem _ hr)
    have h3 := h r List.mem_cons_self
    rw [List.map_cons, List.sum_cons, List.length_cons, Nat.mul_succ]
    refine ⟨by omega, fun e row hr => ?_⟩
    rcases List.mem_cons.mp hr with rfl | z
    · omega
    · exact h2 (by omega) row z
theorem gr_row {row : Row} (h : row ∈ gr acts on line) : row.length = acts := by
  obtain ⟨p, _, rfl⟩ := List.mem_map.mp h
  rw [List.length_map, List.length_range]
theorem gr_length : (gr acts on line).length = line.length := List.length_map _
/-- each sign reads on from each place -/
theorem whole_iff (r : Rd E on) (hl : line.Nodup) (hE : ∀ p a q, E p a q → p ∈ line ∧ q ∈ line ∧ 0 < a ∧ a ≤ (acts : Int)) {l : List E3} (hn : l.Nodup) (hm : ∀ e : E3, e ∈ l ↔ E e.1 e.2.1 e.2.2) :
    l.length = acts * line.length ↔ ∀ row ∈ gr acts on line, ∀ b ∈ row, b.1.isSome = true ∧ b.2.isSome = true := by
  obtain ⟨h1, h2⟩ := count_tos r hl hE hn hm
  have hle : ∀ (f : Option Nat × Option Nat → Bool), ∀ row ∈ gr acts on line, row.countP f ≤ acts := fun f row hr => by
    have := List.countP_le_length (p := f) (l := row)
    rw [gr_row hr] at this
    exact this
  have key : ∀ (f : Option Nat × Option Nat → Bool), ((gr acts on line).map fun row => row.countP f).sum = acts * line.length ↔ ∀ row ∈ gr acts on line, ∀ b ∈ row, f b = true := fun f => by
    have hs := sum_full (fun row => row.countP f) acts (gr acts on line) (hle f)
    rw [gr_length] at hs
    constructor
    · intro e row hr
      have := hs.2 e row hr
      have q : row.countP f = row.length := by rw [gr_row hr]; exact this
      exact fun b hb => (List.countP_eq_length.mp q) b hb
    · intro k
      have : (gr acts on line).map (fun row => row.countP f) = (gr acts on line).map fun _ => acts := List.map_congr_left fun row hr => by
        rw [List.countP_eq_length.mpr (k row hr), gr_row hr]
      rw [this]
      have e : ∀ G : List Row, (G.map fun _ => acts).sum = acts * G.length := fun G => by
        induction G with
        | nil => rfl
        | cons a G ih => rw [List.map_cons, List.sum_cons, ih, List.length_cons, Nat.mul_succ, Nat.add_comm]
      rw [e, gr_length]
  constructor
  · intro e row hr b hb
    rw [h1] at e
    have e1 := (key fun b => b.1.isSome).mp e row hr b hb
    rw [h1, e] at h2
    exact ⟨e1, (key fun b => b.2.isSome).mp h2.symm row hr b hb⟩
  · intro k
    rw [h1]
    exact (key fun b => b.1.isSome).mpr fun row hr b hb => (k row hr b hb).1
/-! ### reading in a graph -/
def stepG (G : List Row) (p : Nat) (s : Int) : Option Nat := (G[p]?.bind fun row => row[s.natAbs - 1]?).bind fun b => if 0 < s then b.1 else b.2
def rdG (G : List Row) : Nat → List Int → Option Nat
  | p, [] => some p
  | p, s :: w => (stepG G p s).bind fun q => rdG G q w
theorem idxOf_get {l : List Int} {q : Int} (h : q ∈ l) : l[l.idxOf q]? = some q := by
  rw [List.getElem?_eq_getElem (List.idxOf_lt_length_of_mem h)]
  congr 1
  exact List.getElem_idxOf _
theorem rd_gr (r : Rd E on) (hE : ∀ p a q, E p a q → p ∈ line ∧ q ∈ line ∧ 0 < a ∧ a ≤ (acts : Int)) : ∀ (w : List Int) (i : Nat) (p q : Int), line[i]? = some p → line.idxOf p = i → Wk E p w q → rdG (gr acts on line) i w = some (line.idxOf q)
  | [], i, p, q, h, h2, e => by
    cases e
    show some i = _
    rw [h2]
  | s :: w, i, p, q, h, _, ⟨t, h1, h2⟩ => by
    have ht : t ∈ line ∧ s ≠ 0 ∧ s.natAbs ≤ acts := by
      rcases h1 with ⟨k1, k2⟩ | ⟨k1, k2⟩
      · obtain ⟨_, z1, z2, z3⟩ := hE _ _ _ k2
        exact ⟨z1, by omega, by omega⟩
      · obtain ⟨z1, _, z2, z3⟩ := hE _ _ _ k2
        exact ⟨z1, by omega, by omega⟩
    obtain ⟨ht, hs0, hs⟩ := ht
    have e1 : on p s = some t := (r _ _ _).mpr h1
    have es : stepG (gr acts on line) i s = some (line.idxOf t) := by
      unfold stepG gr
      rw [List.getElem?_map, h]
      show ((some _).bind fun row : Row => row[s.natAbs - 1]?).bind _ = _
      rw [Option.bind_some, List.getElem?_map, List.getElem?_range (by omega)]
      show (some _).bind _ = _
      rw [Option.bind_some]
      by_cases z : 0 < s
      · have : (((s.natAbs - 1 : Nat) : Int) + 1) = s := by omega
        rw [if_pos z]
        show ix line (on p (((s.natAbs - 1 : Nat) : Int) + 1)) = _
        rw [this, e1]
        rfl
      · have : -(((s.natAbs - 1 : Nat) : Int) + 1) = s := by omega
        rw [if_neg z]
        show ix line (on p (-(((s.natAbs - 1 : Nat) : Int) + 1))) = _
        rw [this, e1]
        rfl
    show (stepG _ i s).bind _ = _
    rw [es]
    exact rd_gr r hE w _ t q (idxOf_get ht) rfl h2
end
end FG
set_option Elab.async false
set_option linter.all false
/-! M3: roses; the words that they read; maps out of them; how long folding goes on. -/
namespace FG
def edge (h s t : Int) : E3 := if 0 < s then (h, s, t) else (t, -s, h)
def roseW : Int → Int → List Int → List E3
  | _, _, [] => []
  | here, many, s :: w => match w with
    | [] => [edge here s 0]
    | _ :: _ => edge here s many :: roseW many (many + 1) w
def rose : Int → List (List Int) → List E3
  | _, [] => []
  | many, w :: ws => roseW 0 many w ++ rose (many + ((w.length - 1 : Nat) : Int)) ws
/-- how many places -/
def places : Int → List (List Int) → Int
  | many, [] => many
  | many, w :: ws => places (many + ((w.length - 1 : Nat) : Int)) ws
def eS (l : List E3) : ES := fun p a q => (p, a, q) ∈ l
theorem places_le : ∀ (ws : List (List Int)) (many : Int), many ≤ places many ws
  | [], many => Int.le_refl _
  | w :: ws, many => by
    have := places_le ws (many + ((w.length - 1 : Nat) : Int))
    show many ≤ places (many + ((w.length - 1 : Nat) : Int)) ws
    omega
theorem St.edge {D : ES} {h s t : Int} (k : D (edge h s t).1 (edge h s t).2.1 (edge h s t).2.2) (hs : s ≠ 0) : St D h s t := by
  unfold FG.edge at k
  by_cases z : 0 < s
  · rw [if_pos z] at k
    exact .inl ⟨z, k⟩
  · rw [if_neg z] at k
    exact .inr ⟨by omega, k⟩
theorem edge_of {D : ES} {h s t : Int} (k : St D h s t) : D (edge h s t).1 (edge h s t).2.1 (edge h s t).2.2 := by
  unfold FG.edge
  rcases k with ⟨z, k⟩ | ⟨z, k⟩
  · rw [if_pos z]; exact k
  · rw [if_neg (by omega)]; exact k
/-- the places of a loop's edges -/
theorem roseW_in : ∀ (w : List Int) (here many : Int), 0 ≤ here → here < many → ∀ e ∈ roseW here many w, 0 ≤ e.1 ∧ e.1 < many + ((w.length - 1 : Nat) : Int) ∧ 0 ≤ e.2.2 ∧ e.2.2 < many + ((w.length - 1 : Nat) : Int)
  | [], _, _, _, _, e, h => by simp [roseW] at h
  | [s], here, many, h0, h1, e, h => by
    simp only [roseW, List.mem_singleton] at h
    subst h
    unfold edge
    by_cases z : 0 < s
    · rw [if_pos z]
      refine ⟨h0, ?_, Int.le_refl _, ?_⟩ <;> simp <;> omega
    · rw [if_neg z]
      refine ⟨Int.le_refl _, ?_, h0, ?_⟩ <;> simp <;> omega
  | s :: t :: w, here, many, h0, h1, e, h => by
    have h' : e ∈ edge here s many :: roseW many (many + 1) (t :: w) := h
    have el : (((s :: t :: w).length - 1 : Nat) : Int) = 1 + (((t :: w).length - 1 : Nat) : Int) := by simp [List.length_cons]; omega
    rw [el]
    rcases List.mem_cons.mp h' with rfl | h'
    · unfold edge
      by_cases z : 0 < s
      · rw [if_pos z]
        refine ⟨h0, ?_, ?_, ?_⟩ <;> simp <;> omega
      · rw [if_neg z]
        refine ⟨?_, ?_, h0, ?_⟩ <;> simp <;> omega
    · have := roseW_in (t :: w) many (many + 1) (by omega) (by omega) e h'
      omega
theorem rose_in : ∀ (ws : List (List Int)) (many : Int), 0 < many → ∀ e ∈ rose many ws, 0 ≤ e.1 ∧ e.1 < places many ws ∧ 0 ≤ e.2.2 ∧ e.2.2 < places many ws
  | [], _, _, e, h => by simp [rose] at h
  | w :: ws, many, h0, e, h => by
    show 0 ≤ e.1 ∧ e.1 < places (many + ((w.length - 1 : Nat) : Int)) ws ∧ 0 ≤ e.2.2 ∧ e.2.2 < places (many + ((w.length - 1 : Nat) : Int)) ws
    have hp := places_le ws (many + ((w.length - 1 : Nat) : Int))
    rcases List.mem_append.mp h with h | h
    · have := roseW_in w 0 many (Int.le_refl _) h0 e h
      omega
    · exact rose_in ws (many + ((w.length - 1 : Nat) : Int)) (by omega) e h
theorem edge_act {h s t : Int} (n : Nat) (hs : s ≠ 0 ∧ s.natAbs ≤ n) : 0 < (edge h s t).2.1 ∧ (edge h s t).2.1 ≤ n := by
  unfold edge
  by_cases z : 0 < s
  · rw [if_pos z]
    show 0 < s ∧ s ≤ n
    omega
  · rw [if_neg z]
    show 0 < -s ∧ -s ≤ n
    omega
def Let (n : Nat) (w : List Int) : Prop := ∀ s ∈ w, s ≠ 0 ∧ s.natAbs ≤ n
theorem roseW_act (n : Nat) : ∀ (w : List Int) (here many : Int), Let n w → ∀ e ∈ roseW here many w, 0 < e.2.1 ∧ e.2.1 ≤ n
  | [], _, _, _, e, h => by simp [roseW] at h
  | [s], here, many, hl, e, h => by
    simp only [roseW, List.mem_singleton] at h
    subst h
    exact edge_act n (hl s List.mem_cons_self)
  | s :: t :: w, here, many, hl, e, h => by
    have h' : e ∈ edge here s many :: roseW many (many + 1) (t :: w) := h
    rcases List.mem_cons.mp h' with rfl | h'
    · exact edge_act n (hl s List.mem_cons_self)
    · exact roseW_act n (t :: w) many (many + 1) (fun x hx => hl x (List.mem_cons_of_mem _ hx)) e h'
theorem rose_act (n : Nat) : ∀ (ws : List (List Int)) (many : Int), (∀ w ∈ ws, Let n w) → ∀ e ∈ rose many ws, 0 < e.2.1 ∧ e.2.1 ≤ n
  | [], _, _, e, h => by simp [rose] at h
  | w :: ws, many, hl, e, h => by
    rcases List.mem_append.mp h with h | h
    · exact roseW_act n w 0 many (hl w List.mem_cons_self) e h
    · exact rose_act n ws _ (fun x hx => hl x (List.mem_cons_of_mem _ hx)) e h
/-- a loop is read -/
theorem roseW_wk {D : ES} : ∀ (w : List Int) (here many : Int), (∀ s ∈ w, s ≠ 0) → w ≠ [] → (∀ e ∈ roseW here many w, D e.1 e.2.1 e.2.2) → Wk D here w 0
  | [], _, _, _, h, _ => absurd rfl h
  | [s], here, many, hl, _, h => ⟨0, St.edge (h _ (by simp [roseW])) (hl s List.mem_cons_self), rfl⟩
  | s :: t :: w, here, many, hl, _, h => ⟨many, St.edge (h (edge here s many) List.mem_cons_self) (hl s List.mem_cons_self),
      roseW_wk (t :: w) many (many + 1) (fun x hx => hl x (List.mem_cons_of_mem _ hx)) (by simp) fun e he => h e (List.mem_cons_of_mem _ he)⟩
theorem rose_sub : ∀ (ws : List (List Int)) (many : Int) (w : List Int), w ∈ ws → ∃ m, ∀ e ∈ roseW 0 m w, e ∈ rose many ws
  | [], _, _, h => absurd h (by simp)
  | w :: ws, many, v, h => by
    rcases List.mem_cons.mp h with rfl | h
    · exact ⟨many, fun e he => List.mem_append_left _ he⟩
    · obtain ⟨m, hm⟩ := rose_sub ws (many + ((w.length - 1 : Nat) : Int)) v h
      exact ⟨m, fun e he => List.mem_append_right _ (hm e he)⟩
/-- each of the words is read from home back to home -/
theorem rose_wk {n : Nat} {ws : List (List Int)} (many : Int) (hl : ∀ w ∈ ws, Let n w) {w : List Int} (hw : w ∈ ws) : Wk (eS (rose many ws)) 0 w 0 := by
  by_cases e : w = []
  · subst e; rfl
  · obtain ⟨m, hm⟩ := rose_sub ws many w hw
    exact roseW_wk w 0 m (fun s hs => (hl w hw s hs).1) e fun x hx => hm x hx
/-- from each place of a rose something leads on from home -/
theorem roseW_rch {D : ES} : ∀ (w : List Int) (here many : Int), (∀ s ∈ w, s ≠ 0) → Rch D here → (∀ e ∈ roseW here many w, D e.1 e.2.1 e.2.2) → ∀ e ∈ roseW here many w, Rch D e.1 ∧ Rch D e.2.2
  | [], _, _, _, _, _, e, h => by simp [roseW] at h
  | [s], here, many, hl, hr, hD, e, h => by
    simp only [roseW, List.mem_singleton] at h
    subst h
    unfold edge
    by_cases z : 0 < s
    · rw [if_pos z]; exact ⟨hr, Rch.zero⟩
    · rw [if_neg z]; exact ⟨Rch.zero, hr⟩
  | s :: t :: w, here, many, hl, hr, hD, e, h => by
    have h' : e ∈ edge here s many :: roseW many (many + 1) (t :: w) := h
    have hm : Rch D many := hr.on (St.edge (hD (edge here s many) List.mem_cons_self) (hl s List.mem_cons_self))
    rcases List.mem_cons.mp h' with rfl | h'
    · unfold edge
      by_cases z : 0 < s
      · rw [if_pos z]; exact ⟨hr, hm⟩
      · rw [if_neg z]; exact ⟨hm, hr⟩
    · exact roseW_rch (t :: w) many (many + 1) (fun x hx => hl x (List.mem_cons_of_mem _ hx)) hm (fun e he => hD e (List.mem_cons_of_mem _ he)) e h'
theorem rose_rch {D : ES} {n : Nat} : ∀ (ws : List (List Int)) (many : Int), (∀ w ∈ ws, Let n w) → (∀ e ∈ rose many ws, D e.1 e.2.1 e.2.2) → ∀ e ∈ rose many ws, Rch D e.1 ∧ Rch D e.2.2
  | [], _, _, _, e, h => by simp [rose] at h
  | w :: ws, many, hl, hD, e, h => by
    rcases List.mem_append.mp h with h | h
    · exact roseW_rch w 0 many (fun s hs => (hl w List.mem_cons_self s hs).1) Rch.zero (fun e he => hD e (List.mem_append_left _ he)) e h
    · exact rose_rch ws _ (fun x hx => hl x (List.mem_cons_of_mem _ hx)) (fun e he => hD e (List.mem_append_right _ he)) e h
theorem rose_cn {n : Nat} {ws : List (List Int)} (many : Int) (hl : ∀ w ∈ ws, Let n w) : Cn (eS (rose many ws)) := fun p a q e => rose_rch (D := eS (rose many ws)) ws many hl (fun _ h => h) (p, a, q) e
/-! maps out of a rose -/
def upd (g : Int → Int) (n v : Int) : Int → Int := fun x => if x = n then v else g x
theorem edge_map {D : ES} {g : Int → Int} {h s t : Int} (k : St D (g h) s (g t)) : D (g (edge h s t).1) (edge h s t).2.1 (g (edge h s t).2.2) := by
  unfold FG.edge
  rcases k with ⟨z, k⟩ | ⟨z, k⟩
  · rw [if_pos z]; exact k
  · rw [if_neg (by omega)]; exact k
theorem roseW_map {D : ES} : ∀ (w : List Int) (here many : Int) (g : Int → Int), 0 ≤ here → here < many → 0 < many → g 0 = 0 → Wk D (g here) w 0 → ∃ g' : Int → Int, (∀ x, x < many → g' x = g x) ∧ ∀ e ∈ roseW here many w, D (g' e.1) e.2.1 (g' e.2.2)
  | [], _, _, g, _, _, _, _, _ => ⟨g, fun _ _ => rfl, fun e h => by simp [roseW] at h⟩
  | [s], here, many, g, h0, h1, hm, g0, ⟨r, k1, k2⟩ => by
    cases k2
    refine ⟨g, fun _ _ => rfl, fun e h => ?_⟩
    simp only [roseW, List.mem_singleton] at h
    subst h
    exact edge_map (by rw [g0]; exact k1)
  | s :: t :: w, here, many, g, h0, h1, hm, g0, ⟨r, k1, k2⟩ => by
    have gm : upd g many r many = r := if_pos rfl
    have gl : ∀ x, x < many → upd g many r x = g x := fun x hx => if_neg (by omega)
    obtain ⟨g', a1, a2⟩ := roseW_map (t :: w) many (many + 1) (upd g many r) (by omega) (by omega) (by omega) (by rw [gl 0 hm, g0]) (by rw [gm]; exact k2)
    refine ⟨g', fun x hx => by rw [a1 x (by omega), gl x hx], fun e h => ?_⟩
    have h' : e ∈ edge here s many :: roseW many (many + 1) (t :: w) := h
    rcases List.mem_cons.mp h' with rfl | h'
    · refine edge_map ?_
      rw [a1 here (by omega), a1 many (by omega), gm, gl here h1]
      exact k1
    · exact a2 e h'
theorem rose_map {D : ES} : ∀ (ws : List (List Int)) (many : Int) (g : Int → Int), 0 < many → g 0 = 0 → (∀ w ∈ ws, Wk D 0 w 0) → ∃ g' : Int → Int, (∀ x, x < many → g' x = g x) ∧ ∀ e ∈ rose many ws, D (g' e.1) e.2.1 (g' e.2.2)
  | [], _, g, _, _, _ => ⟨g, fun _ _ => rfl, fun e h => by simp [rose] at h⟩
  | w :: ws, many, g, hm, g0, hw => by
    obtain ⟨g1, a1, a2⟩ := roseW_map (D := D) w 0 many g (Int.le_refl _) hm hm g0 (by rw [g0]; exact hw w List.mem_cons_self)
    obtain ⟨g2, b1, b2⟩ := rose_map (D := D) ws (many + ((w.length - 1 : Nat) : Int)) g1 (by omega) (by rw [a1 0 hm, g0]) (fun v hv => hw v (List.mem_cons_of_mem _ hv))
    refine ⟨g2, fun x hx => by rw [b1 x (by omega), a1 x hx], fun e h => ?_⟩
    rcases List.mem_append.mp h with h | h
    · have := roseW_in w 0 many (Int.le_refl _) hm e h
      rw [b1 _ this.2.1, b1 _ this.2.2.2]
      exact a2 e h
    · exact b2 e h
theorem rose_hm {D : ES} (ws : List (List Int)) (hw : ∀ w ∈ ws, Wk D 0 w 0) : ∃ g, Hm (eS (rose 1 ws)) D g := by
  obtain ⟨g, h1, h2⟩ := rose_map (D := D) ws 1 (fun x => x) (by decide) rfl hw
  exact ⟨g, h1 0 (by decide), fun p a q e => h2 (p, a, q) e⟩
/-- the same words: one graph -/
theorem same_maps {ws vs : List (List Int)} {E F : ES} {n : Nat} (hl : ∀ w ∈ ws, Let n w) (q : Qt (eS (rose 1 ws)) E) (r : Qt (eS (rose 1 vs)) F) (fF : Fd F) (h : (∀ w ∈ vs, Wk F 0 w 0) → ∀ w ∈ ws, Wk F 0 w 0) (hv : ∀ w ∈ vs, Let n w) : ∃ g, Hm E F g := by
  obtain ⟨k, m, _⟩ := r.to
  obtain ⟨g, hg⟩ := rose_hm (D := F) ws (h fun w hw => by
    have := m.wk (rose_wk 1 hv hw)
    rwa [m.zero] at this)
  exact ⟨g, q.un _ _ fF hg⟩
/-! ### how long it goes on -/
theorem fd_of {E : ES} (h : ∀ a b, a < b → ¬ Cp E a b) : Fd E := fun p s q q' k k' => by
  by_cases z : q < q'
  · exact absurd ⟨p, s, k, k'⟩ (h q q' z)
  · by_cases y : q' < q
    · exact absurd ⟨p, s, k', k⟩ (h q' q y)
    · omega
def occ (l : List E3) (n : Int) : Bool := l.any fun e => decide (e.1 = n) || decide (e.2.2 = n)
theorem occ_iff {l : List E3} {n : Int} : occ l n = true ↔ ∃ e ∈ l, e.1 = n ∨ e.2.2 = n := by
  unfold occ
  simp only [List.any_eq_true, Bool.or_eq_true, decide_eq_true_eq]
def msr (N : Nat) (l : List E3) : Nat := (List.range N).countP fun n : Nat => occ l (n : Int)
theorem countP_lt {α : Type} (f g : α → Bool) (h : ∀ x, f x = true → g x = true) : ∀ (l : List α) (a : α), a ∈ l → f a = false → g a = true → l.countP f < l.countP g
  | [], a, ha, _, _ => absurd ha (by simp)
  | x :: l, a, ha, h1, h2 => by
    have mono := List.countP_mono_left (p := f) (q := g) (l := l) fun x _ => h x
    rcases List.mem_cons.mp ha with rfl | ha
    · rw [List.countP_cons_of_neg (by rw [h1]; exact Bool.false_ne_true), List.countP_cons_of_pos h2]
      omega
    · have ih := countP_lt f g h l a ha h1 h2
      rw [List.countP_cons, List.countP_cons]
      by_cases z : f x = true
      · rw [if_pos z, if_pos (h x z)]
        omega
      · rw [if_neg z]
        omega
/-- a merge -/
theorem msr_lt {N : Nat} {l l' : List E3} {a b : Int} (hab : a ≠ b) (hb : 0 ≤ b ∧ b < N) (oa : occ l a = true) (ob : occ l b = true) (hm : ∀ e : E3, e ∈ l' → ∃ e0 ∈ l, e.1 = mrg a b e0.1 ∧ e.2.2 = mrg a b e0.2.2) : msr N l' < msr N l := by
  have nb : ∀ x, mrg a b x ≠ b := fun x => by
    unfold mrg
    by_cases z : x = b
    · rw [if_pos z]; exact hab
    · rw [if_neg z]; exact z
  have key : ∀ n : Int, occ l' n = true → occ l n = true ∧ n ≠ b := fun n h => by
    obtain ⟨e, he, hn⟩ := occ_iff.mp h
    obtain ⟨e0, h0, e1, e2⟩ := hm e he
    have cl : ∀ x, (∃ e ∈ l, e.1 = x ∨ e.2.2 = x) → mrg a b x = n → occ l n = true := fun x hx hxn => by
      unfold mrg at hxn
      by_cases z : x = b
      · rw [if_pos z] at hxn; rw [← hxn]; exact oa
      · rw [if_neg z] at hxn; rw [← hxn]; exact occ_iff.mpr hx
    rcases hn with hn | hn
    · refine ⟨cl e0.1 ⟨e0, h0, .inl rfl⟩ (e1.symm.trans hn), ?_⟩
      rw [← hn, e1]
      exact nb _
    · refine ⟨cl e0.2.2 ⟨e0, h0, .inr rfl⟩ (e2.symm.trans hn), ?_⟩
      rw [← hn, e2]
      exact nb _
  unfold msr
  refine countP_lt _ _ (fun x h => (key _ h).1) _ b.toNat (List.mem_range.mpr (by omega)) ?_ ?_
  · have : ((b.toNat : Nat) : Int) = b := by omega
    rw [this]
    cases z : occ l' b with
    | false => rfl
    | true => exact absurd rfl (key b z).2
  · have : ((b.toNat : Nat) : Int) = b := by omega
    rw [this]
    exact ob
theorem msr_le (N : Nat) (l : List E3) : msr N l ≤ N := by
  have := List.countP_le_length (p := fun n : Nat => occ l (n : Int)) (l := List.range N)
  rw [List.length_range] at this
  exact this
theorem occ_st {l : List E3} {p s q : Int} (h : St (eS l) p s q) : occ l q = true := by
  rcases h with ⟨_, h⟩ | ⟨_, h⟩
  · exact occ_iff.mpr ⟨_, h, .inr rfl⟩
  · exact occ_iff.mpr ⟨_, h, .inl rfl⟩
end FG
set_option Elab.async false
set_option linter.all false
set_option maxRecDepth 100000
set_option maxHeartbeats 4000000
namespace K48
open PySem PySem.Spec PyProof.Rows L2 Hx
/-! printed by gen.py -/
def top (i : Nat) : Stmt := PySem.Challenge.pw_homedoings_k48_folds_in_any_sequence.main.body.getD i (.Pass ⟨0, 0, 0, 0⟩)
abbrev s_act_signs : Stmt := top 1
abbrev s_rose_edges : Stmt := top 8
abbrev s_ends_of : Stmt := top 9
abbrev s_couples_to_fold : Stmt := top 10
abbrev s_folded_once : Stmt := top 11
abbrev s_folded_edges : Stmt := top 12
abbrev s_numbered_graph : Stmt := top 13
abbrev s_folded_graph : Stmt := top 14
abbrev s_read_on : Stmt := top 15
abbrev s_read_row : Stmt := top 16
abbrev s_is_member : Stmt := top 17
abbrev s_edges_told : Stmt := top 19
abbrev s_group_rank : Stmt := top 20
abbrev s_group_index : Stmt := top 21
abbrev s__law_source : Stmt := top 23
abbrev s__law_pick : Stmt := top 24
abbrev s__law_of : Stmt := top 25
abbrev s__law_mixed : Stmt := top 26
abbrev s__law_net : Stmt := top 27
abbrev s__law_undone : Stmt := top 28
abbrev s__law_doing : Stmt := top 29
abbrev s__law_doings : Stmt := top 30
abbrev s__law_rose : Stmt := top 31
abbrev s__law_couples : Stmt := top 32
abbrev s__law_merged : Stmt := top 33
abbrev s__law_folded : Stmt := top 34
abbrev s__law_signs : Stmt := top 35
abbrev s__law_on : Stmt := top 36
abbrev s__law_graph : Stmt := top 37
abbrev s__law_read : Stmt := top 38
abbrev s__law_told : Stmt := top 39
abbrev s__law_others : Stmt := top 40
abbrev s_law : Stmt := top 41
abbrev N_act_signs : List Str := ["acts", "found", "act"]
theorem sc_act_signs : FnScope N_act_signs ["acts"] (defScope s_act_signs) := ⟨rfl, rfl, rfl, by decide +kernel, rfl, by decide +kernel, by decide +kernel⟩
abbrev N_rose_edges : List Str := ["doings", "found", "many", "doing", "here", "k", "sign", "there"]
theorem sc_rose_edges : FnScope N_rose_edges ["doings"] (defScope s_rose_edges) := ⟨rfl, rfl, rfl, by decide +kernel, rfl, by decide +kernel, by decide +kernel⟩
abbrev N_ends_of : List Str := ["edges", "found", "one", "act", "other", "key", "some"]
theorem sc_ends_of : FnScope N_ends_of ["edges"] (defScope s_ends_of) := ⟨rfl, rfl, rfl, by decide +kernel, rfl, by decide +kernel, by decide +kernel⟩
abbrev N_couples_to_fold : List Str := ["edges", "found", "some", "k", "one", "other"]
theorem sc_couples_to_fold : FnScope N_couples_to_fold ["edges"] (defScope s_couples_to_fold) := ⟨rfl, rfl, rfl, by decide +kernel, rfl, by decide +kernel, by decide +kernel⟩
abbrev N_folded_once : List Str := ["edges", "couple", "here", "gone", "found", "one", "act", "other"]
theorem sc_folded_once : FnScope N_folded_once ["edges", "couple"] (defScope s_folded_once) := ⟨rfl, rfl, rfl, by decide +kernel, rfl, by decide +kernel, by decide +kernel⟩
abbrev N_folded_edges : List Str := ["edges", "folds", "couples"]
theorem sc_folded_edges : FnScope N_folded_edges ["edges"] (defScope s_folded_edges) := ⟨rfl, rfl, rfl, by decide +kernel, rfl, by decide +kernel, by decide +kernel⟩
abbrev N_numbered_graph : List Str := ["acts", "edges", "ends", "line", "known", "k", "sign", "late", "found", "place", "row", "act", "both", "some"]
theorem sc_numbered_graph : FnScope N_numbered_graph ["acts", "edges"] (defScope s_numbered_graph) := ⟨rfl, rfl, rfl, by decide +kernel, rfl, by decide +kernel, by decide +kernel⟩
abbrev N_folded_graph : List Str := ["acts", "doings", "edges", "folds"]
theorem sc_folded_graph : FnScope N_folded_graph ["acts", "doings"] (defScope s_folded_graph) := ⟨rfl, rfl, rfl, by decide +kernel, rfl, by decide +kernel, by decide +kernel⟩
abbrev N_read_on : List Str := ["graph", "place", "sign", "both"]
theorem sc_read_on : FnScope N_read_on ["graph", "place", "sign"] (defScope s_read_on) := ⟨rfl, rfl, rfl, by decide +kernel, rfl, by decide +kernel, by decide +kernel⟩
abbrev N_read_row : List Str := ["graph", "place", "row", "sign"]
theorem sc_read_row : FnScope N_read_row ["graph", "place", "row"] (defScope s_read_row) := ⟨rfl, rfl, rfl, by decide +kernel, rfl, by decide +kernel, by decide +kernel⟩
abbrev N_is_member : List Str := ["graph", "doing"]
theorem sc_is_member : FnScope N_is_member ["graph", "doing"] (defScope s_is_member) := ⟨rfl, rfl, rfl, by decide +kernel, rfl, by decide +kernel, by decide +kernel⟩
abbrev N_edges_told : List Str := ["graph", "found", "place", "row", "k", "both"]
theorem sc_edges_told : FnScope N_edges_told ["graph"] (defScope s_edges_told) := ⟨rfl, rfl, rfl, by decide +kernel, rfl, by decide +kernel, by decide +kernel⟩
abbrev N_group_rank : List Str := ["graph"]
theorem sc_group_rank : FnScope N_group_rank ["graph"] (defScope s_group_rank) := ⟨rfl, rfl, rfl, by decide +kernel, rfl, by decide +kernel, by decide +kernel⟩
abbrev N_group_index : List Str := ["graph", "row", "both"]
theorem sc_group_index : FnScope N_group_index ["graph"] (defScope s_group_index) := ⟨rfl, rfl, rfl, by decide +kernel, rfl, by decide +kernel, by decide +kernel⟩
abbrev N__law_source : List Str := ["script", "mixed", "cell"]
theorem sc__law_source : FnScope N__law_source ["script"] (defScope s__law_source) := ⟨rfl, rfl, rfl, by decide +kernel, rfl, by decide +kernel, by decide +kernel⟩
abbrev N__law_pick : List Str := ["source", "many", "left", "mixed"]
theorem sc__law_pick : FnScope N__law_pick ["source", "many"] (defScope s__law_pick) := ⟨rfl, rfl, rfl, by decide +kernel, rfl, by decide +kernel, by decide +kernel⟩
abbrev N__law_of : List Str := ["source", "some"]
theorem sc__law_of : FnScope N__law_of ["source", "some"] (defScope s__law_of) := ⟨rfl, rfl, rfl, by decide +kernel, rfl, by decide +kernel, by decide +kernel⟩
abbrev N__law_mixed : List Str := ["source", "things", "rest", "lap"]
theorem sc__law_mixed : FnScope N__law_mixed ["source", "things"] (defScope s__law_mixed) := ⟨rfl, rfl, rfl, by decide +kernel, rfl, by decide +kernel, by decide +kernel⟩
abbrev N__law_net : List Str := ["row", "found", "k"]
theorem sc__law_net : FnScope N__law_net ["row"] (defScope s__law_net) := ⟨rfl, rfl, rfl, by decide +kernel, rfl, by decide +kernel, by decide +kernel⟩
abbrev N__law_undone : List Str := ["doing", "act"]
theorem sc__law_undone : FnScope N__law_undone ["doing"] (defScope s__law_undone) := ⟨rfl, rfl, rfl, by decide +kernel, rfl, by decide +kernel, by decide +kernel⟩
abbrev N__law_doing : List Str := ["source", "acts", "most", "row", "k"]
theorem sc__law_doing : FnScope N__law_doing ["source", "acts", "most"] (defScope s__law_doing) := ⟨rfl, rfl, rfl, by decide +kernel, rfl, by decide +kernel, by decide +kernel⟩
abbrev N__law_doings : List Str := ["source", "acts", "found", "k", "way", "one"]
theorem sc__law_doings : FnScope N__law_doings ["source", "acts"] (defScope s__law_doings) := ⟨rfl, rfl, rfl, by decide +kernel, rfl, by decide +kernel, by decide +kernel⟩
abbrev N__law_rose : List Str := ["doings", "edges", "many", "doing", "k", "line", "act", "edge"]
theorem sc__law_rose : FnScope N__law_rose ["doings"] (defScope s__law_rose) := ⟨rfl, rfl, rfl, by decide +kernel, rfl, by decide +kernel, by decide +kernel⟩
abbrev N__law_couples : List Str := ["edges", "found", "place", "act", "late", "here", "other", "behind"]
theorem sc__law_couples : FnScope N__law_couples ["edges"] (defScope s__law_couples) := ⟨rfl, rfl, rfl, by decide +kernel, rfl, by decide +kernel, by decide +kernel⟩
abbrev N__law_merged : List Str := ["edges", "couple", "a", "b", "late", "one", "act", "other", "edge"]
theorem sc__law_merged : FnScope N__law_merged ["edges", "couple"] (defScope s__law_merged) := ⟨rfl, rfl, rfl, by decide +kernel, rfl, by decide +kernel, by decide +kernel⟩
abbrev N__law_folded : List Str := ["source", "edges", "is_told", "folds", "some", "couple"]
theorem sc__law_folded : FnScope N__law_folded ["source", "edges", "is_told"] (defScope s__law_folded) := ⟨rfl, rfl, rfl, by decide +kernel, rfl, by decide +kernel, by decide +kernel⟩
abbrev N__law_signs : List Str := ["acts", "found", "act"]
theorem sc__law_signs : FnScope N__law_signs ["acts"] (defScope s__law_signs) := ⟨rfl, rfl, rfl, by decide +kernel, rfl, by decide +kernel, by decide +kernel⟩
abbrev N__law_on : List Str := ["edges", "place", "sign", "some", "here", "act", "late"]
theorem sc__law_on : FnScope N__law_on ["edges", "place", "sign"] (defScope s__law_on) := ⟨rfl, rfl, rfl, by decide +kernel, rfl, by decide +kernel, by decide +kernel⟩
abbrev N__law_graph : List Str := ["acts", "edges", "line", "k", "sign", "late", "found", "place", "both", "act", "ends", "end"]
theorem sc__law_graph : FnScope N__law_graph ["acts", "edges"] (defScope s__law_graph) := ⟨rfl, rfl, rfl, by decide +kernel, rfl, by decide +kernel, by decide +kernel⟩
abbrev N__law_read : List Str := ["graph", "place", "row", "sign"]
theorem sc__law_read : FnScope N__law_read ["graph", "place", "row"] (defScope s__law_read) := ⟨rfl, rfl, rfl, by decide +kernel, rfl, by decide +kernel, by decide +kernel⟩
abbrev N__law_others : List Str := ["source", "doings", "found", "doing"]
theorem sc__law_others : FnScope N__law_others ["source", "doings"] (defScope s__law_others) := ⟨rfl, rfl, rfl, by decide +kernel, rfl, by decide +kernel, by decide +kernel⟩
abbrev N_law : List Str := ["script", "source", "acts", "doings", "edges", "many", "folded", "folds", "due", "turn", "late", "whole", "told", "ranks", "members", "doing", "place"]
theorem sc_law : FnScope N_law ["script"] (defScope s_law) := ⟨rfl, rfl, rfl, by decide +kernel, rfl, by decide +kernel, by decide +kernel⟩
structure Tx (P : Program) (K : PySem.W.Frag) (mg : Str → Option Value) (tg fI : Addr) : Prop where
  b_abs : mg "abs" = none
  b_dict : mg "dict" = none
  b_enumerate : mg "enumerate" = none
  b_int : mg "int" = none
  b_len : mg "len" = none
  b_list : mg "list" = none
  b_max : mg "max" = none
  b_range : mg "range" = none
  b_repr : mg "repr" = none
  b_sorted : mg "sorted" = none
  b_tuple : mg "tuple" = none
  c_MOST_PLACES : ∃ t, mg "MOST_PLACES" = some (.int 300 t)
  c_TOO_MANY : ∃ t, mg "TOO_MANY" = some (.int 2 t)
  too : TooX.TooTxt P K mg tg fI
def u_act_signs : SS := (sSeq (sSet 1 (eLst BX aNil))
    (sSeq (sFor (srcR2 (eC (.int 1)) (e2 (opAdd FZ) (eVar 0) (eC (.int 1)))) (gN 2) (sSeq (sExpr (eMt ckL mtExtend (eVar 1) (aCons (eLst FZ (aCons (eVar 2) (aCons (e1 opNeg (eVar 2)) aNil))) aNil)))
    sNil))
    (sSeq (sRet (eVar 1))
    sNil)))
def F_act_signs : SF := cutF (defF 1 3 u_act_signs)
def u_rose_edges : SS := (sSeq (sPar 1 2 (aCons (eLst BX aNil) (aCons (eC (.int 1)) aNil)))
    (sSeq (sFor (srcV (eVar 0)) (gN 3) (sSeq (sSet 4 (eC (.int 0)))
    (sSeq (sFor (srcE (eVar 3)) (gT [(gN 5), (gN 6)]) (sSeq (sSet 7 (eIf (bVal (e2 opLt (e2 (opAdd FZ) (eVar 5) (eC (.int 1))) (eCB (biLen) (aCons (eVar 3) aNil)))) (eVar 2) (eC (.int 0))))
    (sSeq (sAug 2 (opI (fun _ _ => true) fun a b => .int (a + b)) (eCB (biInt) (aCons (e2 opLt (e2 (opAdd FZ) (eVar 5) (eC (.int 1))) (eCB (biLen) (aCons (eVar 3) aNil))) aNil)))
    (sSeq (sExpr (eMt ckL mtAppend (eVar 1) (aCons (eIf (bVal (e2 opGt (eVar 6) (eC (.int 0)))) (eTup (aCons (eVar 4) (aCons (eVar 6) (aCons (eVar 7) aNil)))) (eTup (aCons (eVar 7) (aCons (e1 opNeg (eVar 6)) (aCons (eVar 4) aNil))))) aNil)))
    (sSeq (sSet 4 (eVar 7))
    sNil)))))
    sNil)))
    (sSeq (sIf (bVal (e2 opGt (eVar 2) (eC (.int 300)))) (sSeq (sRaise (eC (.int 2)))
    sNil) sNil)
    (sSeq (sRet (eTup (aCons (eVar 1) (aCons (eVar 2) aNil))))
    sNil))))
def F_rose_edges : SF := cutF (defF 1 8 u_rose_edges)
def u_ends_of : SS := (sSeq (sScope (sSeq (sSet 1 (eDNew BX (.dT []))) (sSeq (sFor (srcV (eVar 0)) (gT [(gN 2), (gN 3), (gN 4)]) (sSeq (sDPut (eMt ckT mtSet (eVar 1) (aCons (eTup (aCons (eVar 2) (aCons (eVar 3) aNil))) (aCons (eDNew BX (.dK [])) aNil))) (eVar 4) (eC (.bl true)))
    (sSeq (sDPut (eMt ckT mtSet (eVar 1) (aCons (eTup (aCons (eVar 4) (aCons (e1 opNeg (eVar 3)) aNil))) (aCons (eDNew BX (.dK [])) aNil))) (eVar 2) (eC (.bl true)))
    sNil))) sNil)))
    (sSeq (sRet (eCB (opDictT FZ) (aCons (eLc FZ (srcItems (eVar 1)) (gT [(gN 5), (gN 6)]) [5, 6] bYes (eTup (aCons (eVar 5) (aCons (eCB (opSorted FZ) (aCons (eVar 6) aNil)) aNil)))) aNil)))
    sNil))
def F_ends_of : SF := cutF (defF 1 7 u_ends_of)
def u_couples_to_fold : SS := (sSeq (sSet 1 (eDNew BX (.dT [])))
    (sSeq (sFor (srcVals (eCB F_ends_of (aCons (eVar 0) aNil))) (gN 2) (sSeq (sFor (srcE (eVar 2)) (gT [(gN 3), (gN 4)]) (sSeq (sExpr (eMt ckT mtUpdT (eVar 1) (aCons (eLc FZ (srcV (eSl FZ (eVar 2) (oSome (e2 (opAdd FZ) (eVar 3) (eC (.int 1)))) oNone)) (gN 5) [5] bYes (eTup (aCons (eTup (aCons (eVar 4) (aCons (eVar 5) aNil))) (aCons (eC (.bl true)) aNil)))) aNil)))
    sNil))
    sNil))
    (sSeq (sRet (eCB (opSorted FZ) (aCons (eVar 1) aNil)))
    sNil)))
def F_couples_to_fold : SF := cutF (defF 1 6 u_couples_to_fold)
def u_folded_once : SS := (sSeq (sAsg (eVar 1) (gT [(gN 2), (gN 3)]))
    (sSeq (sSet 4 (eDNew BX (.dT [])))
    (sSeq (sFor (srcV (eVar 0)) (gT [(gN 5), (gN 6), (gN 7)]) (sSeq (sDPut (eVar 4) (eTup (aCons (eIf (bVal (e2 opEq (eVar 5) (eVar 3))) (eVar 2) (eVar 5)) (aCons (eVar 6) (aCons (eIf (bVal (e2 opEq (eVar 7) (eVar 3))) (eVar 2) (eVar 7)) aNil)))) (eC (.bl true)))
    sNil))
    (sSeq (sRet (eCB (biList FZ) (aCons (eVar 4) aNil)))
    sNil))))
def F_folded_once : SF := cutF (defF 2 8 u_folded_once)
def u_folded_edges : SS := (sSeq (sPar 1 2 (aCons (eLst BX aNil) (aCons (eCB F_couples_to_fold (aCons (eVar 0) aNil)) aNil)))
    (sSeq (sWhile (bVal (e2 opNe (eVar 2) (eLst FZ aNil))) (sSeq (sExpr (eMt ckL mtAppend (eVar 1) (aCons (e2 opIx (eVar 2) (eC (.int 0))) aNil)))
    (sSeq (sSet 0 (eCB F_folded_once (aCons (eVar 0) (aCons (e2 opIx (eVar 2) (eC (.int 0))) aNil))))
    (sSeq (sSet 2 (eCB F_couples_to_fold (aCons (eVar 0) aNil)))
    sNil))))
    (sSeq (sRet (eTup (aCons (eVar 0) (aCons (eCB (biTuple) (aCons (eVar 1) aNil)) aNil))))
    sNil)))
def F_folded_edges : SF := cutF (defF 1 3 u_folded_edges)
def u_numbered_graph : SS := (sSeq (sScope (sSeq (sAsg (eTup (aCons (eCB F_ends_of (aCons (eVar 1) aNil)) (aCons (eLst BX (aCons (eC (.int 0)) aNil)) (aCons (eDisp [((eC (.int 0)), (eC (.int 0)))]) (aCons (eC (.int 0)) aNil))))) (gT [(gN 2), (gN 3), (gN 4), (gN 5)])) (sSeq (sWhile (bVal (e2 opLt (eVar 5) (eCB (biLen) (aCons (eVar 3) aNil)))) (sSeq (sFor (srcV (eCB F_act_signs (aCons (eVar 0) aNil))) (gN 6) (sSeq (sFor (srcV (eGet2 (eVar 2) (eTup (aCons (e2 opIx (eVar 3) (eVar 5)) (aCons (eVar 6) aNil))) (eLst FZ aNil))) (gN 7) (sSeq (sIf (bVal (e2 opDNot (eVar 7) (eVar 4))) (sSeq (sDPut (eVar 4) (eVar 7) (eCB (biLen) (aCons (eVar 3) aNil)))
    (sSeq (sExpr (eMt ckL mtAppend (eVar 3) (aCons (eVar 7) aNil)))
    sNil)) sNil)
    sNil))
    sNil))
    (sSeq (sAug 5 (opI (fun _ _ => true) fun a b => .int (a + b)) (eC (.int 1)))
    sNil))) sNil)))
    (sSeq (sSet 8 (eLst BX aNil))
    (sSeq (sFor (srcV (eVar 3)) (gN 9) (sSeq (sSet 10 (eLst BX aNil))
    (sSeq (sFor (srcR2 (eC (.int 1)) (e2 (opAdd FZ) (eVar 0) (eC (.int 1)))) (gN 11) (sSeq (sSet 12 (eLc FZ (srcV (eTup (aCons (eVar 11) (aCons (e1 opNeg (eVar 11)) aNil)))) (gN 6) [6] bYes (eGet2 (eVar 2) (eTup (aCons (eVar 9) (aCons (eVar 6) aNil))) (eLst FZ aNil))))
    (sSeq (sExpr (eMt ckL mtAppend (eVar 10) (aCons (eCB (biTuple) (aCons (eLc FZ (srcV (eVar 12)) (gN 13) [13] bYes (eIf (bVal (e2 opNe (eVar 13) (eLst FZ aNil))) (eDGet (eVar 4) (e2 opIx (eVar 13) (eC (.int 0)))) (eC .non))) aNil)) aNil)))
    sNil)))
    (sSeq (sExpr (eMt ckL mtAppend (eVar 8) (aCons (eCB (biTuple) (aCons (eVar 10) aNil)) aNil)))
    sNil))))
    (sSeq (sRet (eCB (biTuple) (aCons (eVar 8) aNil)))
    sNil))))
def F_numbered_graph : SF := cutF (defF 2 14 u_numbered_graph)
def u_folded_graph : SS := (sSeq (sAsg (eCB F_folded_edges (aCons (e2 opIx (eCB F_rose_edges (aCons (eVar 1) aNil)) (eC (.int 0))) aNil)) (gT [(gN 2), (gN 3)]))
    (sSeq (sRet (eTup (aCons (eCB F_numbered_graph (aCons (eVar 0) (aCons (eVar 2) aNil))) (aCons (eVar 3) aNil))))
    sNil))
def F_folded_graph : SF := cutF (defF 2 4 u_folded_graph)
def u_read_on : SS := (sSeq (sSet 3 (e2 opIx (e2 opIx (eVar 0) (eVar 1)) (e2 (opSub) (eCB (biAbs) (aCons (eVar 2) aNil)) (eC (.int 1)))))
    (sSeq (sRet (eIf (bVal (e2 opGt (eVar 2) (eC (.int 0)))) (e2 opIx (eVar 3) (eC (.int 0))) (e2 opIx (eVar 3) (eC (.int 1)))))
    sNil))
def F_read_on : SF := cutF (defF 3 4 u_read_on)
def u_read_row : SS := (sSeq (sFor (srcV (eVar 2)) (gN 3) (sSeq (sSet 1 (eCB F_read_on (aCons (eVar 0) (aCons (eVar 1) (aCons (eVar 3) aNil)))))
    (sSeq (sIf (bVal (e2 opIsN (eVar 1) (eC .non))) (sSeq (sRet (eC .non))
    sNil) sNil)
    sNil)))
    (sSeq (sRet (eVar 1))
    sNil))
def F_read_row : SF := cutF (defF 3 4 u_read_row)
def u_is_member : SS := (sSeq (sRet (e2 opEq (eCB F_read_row (aCons (eVar 0) (aCons (eC (.int 0)) (aCons (eVar 1) aNil)))) (eC (.int 0))))
    sNil)
def F_is_member : SF := cutF (defF 2 2 u_is_member)
def u_edges_told : SS := (sSeq (sSet 1 (eLst BX aNil))
    (sSeq (sFor (srcE (eVar 0)) (gT [(gN 2), (gN 3)]) (sSeq (sExpr (eMt ckL mtExtend (eVar 1) (aCons (eLc FZ (srcE (eVar 3)) (gT [(gN 4), (gN 5)]) [4, 5] (bVal (e2 opNotN (e2 opIx (eVar 5) (eC (.int 0))) (eC .non))) (eTup (aCons (eVar 2) (aCons (e2 (opAdd FZ) (eVar 4) (eC (.int 1))) (aCons (e2 opIx (eVar 5) (eC (.int 0))) aNil))))) aNil)))
    sNil))
    (sSeq (sRet (eVar 1))
    sNil)))
def F_edges_told : SF := cutF (defF 1 6 u_edges_told)
def u_group_rank : SS := (sSeq (sRet (e2 (opSub) (e2 (opAdd FZ) (eCB (biLen) (aCons (eCB F_edges_told (aCons (eVar 0) aNil)) aNil)) (eC (.int 1))) (eCB (biLen) (aCons (eVar 0) aNil))))
    sNil)
def F_group_rank : SF := cutF (defF 1 1 u_group_rank)
def u_group_index : SS := (sSeq (sFor (srcV (eVar 0)) (gN 1) (sSeq (sIf (bVal (e2 opNe (eLc FZ (srcV (eVar 1)) (gN 2) [2] (bVal (e2 opIn (eC .non) (eVar 2))) (eVar 2)) (eLst FZ aNil))) (sSeq (sRet (eC .non))
    sNil) sNil)
    sNil))
    (sSeq (sRet (eCB (biLen) (aCons (eVar 0) aNil)))
    sNil))
def F_group_index : SF := cutF (defF 1 3 u_group_index)
def u__law_source : SS := (sSeq (sSet 1 (eC (.int 11)))
    (sSeq (sFor (srcV (eVar 0)) (gN 2) (sSeq (sSet 1 (e2 (opMod) (eCB (biInt) (aCons (e2 (opAdd FZ) (e2 (opAdd FZ) (e2 (opMulX FZ) (eVar 1) (eC (.int 69069))) (e2 (opMulX FZ) (eVar 2) (eC (.int 31)))) (eC (.int 5))) aNil)) (eC (.int 2147483629))))
    sNil))
    (sSeq (sRet (eDisp [((eC (.str "cells")), (eBack BX (eLc FZ (srcV (eVar 0)) (gN 2) [2] bYes (eCB (biAbs) (aCons (eVar 2) aNil))))), ((eC (.str "left")), (eC (.int 1))), ((eC (.str "mixed")), (eVar 1)), ((eC (.str "turn")), (eC (.int 0)))]))
    sNil)))
def F__law_source : SF := (defF 1 3 u__law_source)
def u__law_pick : SS := (sSeq (sWhile (bAnd (bVal (e2 opGt (eVar 1) (eC (.int 1)))) (bAnd (bVal (e2 opLt (eDGet (eVar 0) (eC (.str "left"))) (eC (.int 2)))) (bVal (e2 opGt (eCB (biLen) (aCons (eDGet (eVar 0) (eC (.str "cells"))) aNil)) (eC (.int 0)))))) (sSeq (sDPut (eVar 0) (eC (.str "left")) (eMt0 ckL mtPop (eDGet (eVar 0) (eC (.str "cells")))))
    sNil))
    (sSeq (sSet 2 (eDGet (eVar 0) (eC (.str "left"))))
    (sSeq (sIf (bOr (bVal (e2 opLt (eVar 1) (eC (.int 2)))) (bVal (e2 opGt (eVar 2) (eC (.int 1))))) (sSeq (sDPut (eVar 0) (eC (.str "left")) (e2 (opDiv) (eVar 2) (eCB (biMax) (aCons (eC (.int 1)) (aCons (eVar 1) aNil)))))
    (sSeq (sRet (e2 (opMod) (eCB (biInt) (aCons (eVar 2) aNil)) (eCB (biMax) (aCons (eC (.int 1)) (aCons (eVar 1) aNil)))))
    sNil)) sNil)
    (sSeq (sDPut (eVar 0) (eC (.str "turn")) (e2 (opAdd FZ) (eDGet (eVar 0) (eC (.str "turn"))) (eC (.int 1))))
    (sSeq (sSet 3 (e2 (opMod) (eCB (biInt) (aCons (e2 (opAdd FZ) (eDGet (eVar 0) (eC (.str "mixed"))) (e2 (opMulX FZ) (eDGet (eVar 0) (eC (.str "turn"))) (eC (.int 104729)))) aNil)) (eC (.int 998244353))))
    (sSeq (sSet 3 (e2 (opMod) (eCB (biInt) (aCons (e2 (opAdd FZ) (e2 (opMulX FZ) (eVar 3) (eVar 3)) (e2 (opMulX FZ) (eDGet (eVar 0) (eC (.str "turn"))) (eC (.int 17)))) aNil)) (eC (.int 2147483647))))
    (sSeq (sDPut (eVar 0) (eC (.str "mixed")) (eVar 3))
    (sSeq (sRet (e2 (opMod) (eCB (biInt) (aCons (e2 (opDiv) (eVar 3) (eC (.int 16))) aNil)) (eVar 1)))
    sNil))))))))
def F__law_pick : SF := cutF (defF 2 4 u__law_pick)
def u__law_of : SS := (sSeq (sRet (e2 opIx (eVar 1) (eCB F__law_pick (aCons (eVar 0) (aCons (eCB (biLen) (aCons (eVar 1) aNil)) aNil)))))
    sNil)
def F__law_of : SF := cutF (defF 2 2 u__law_of)
def u__law_mixed : SS := (sSeq (sSet 2 (eCB (biList BX) (aCons (eVar 1) aNil)))
    (sSeq (sRet (eLc FZ (srcR1 (eCB (biLen) (aCons (eVar 2) aNil))) (gN 3) [3] bYes (eMt ckL mtPopAt (eVar 2) (aCons (eCB F__law_pick (aCons (eVar 0) (aCons (eCB (biLen) (aCons (eVar 2) aNil)) aNil))) aNil))))
    sNil))
def F__law_mixed : SF := cutF (defF 2 4 u__law_mixed)
def u__law_net : SS := (sSeq (sPar 1 2 (aCons (eCB (biList FZ) (aCons (eVar 0) aNil)) (aCons (e2 (opSub) (eCB (biLen) (aCons (eVar 0) aNil)) (eC (.int 2))) aNil)))
    (sSeq (sWhile (bVal (e2 opGe (eVar 2) (eC (.int 0)))) (sSeq (sIf (bAnd (bVal (e2 opLt (e2 (opAdd FZ) (eVar 2) (eC (.int 1))) (eCB (biLen) (aCons (eVar 1) aNil)))) (bVal (e2 opEq (e2 (opAdd FZ) (e2 opIx (eVar 1) (eVar 2)) (e2 opIx (eVar 1) (e2 (opAdd FZ) (eVar 2) (eC (.int 1))))) (eC (.int 0))))) (sSeq (sSet 1 (e2 (opAdd FZ) (eSl FZ (eVar 1) oNone (oSome (eVar 2))) (eSl FZ (eVar 1) (oSome (e2 (opAdd FZ) (eVar 2) (eC (.int 2)))) oNone)))
    sNil) sNil)
    (sSeq (sSet 2 (e2 (opSub) (eVar 2) (eC (.int 1))))
    sNil)))
    (sSeq (sRet (eCB (biTuple) (aCons (eVar 1) aNil)))
    sNil)))
def F__law_net : SF := cutF (defF 1 3 u__law_net)
def u__law_undone : SS := (sSeq (sRet (eCB (biTuple) (aCons (eLc FZ (srcV (eBack FZ (eVar 0))) (gN 1) [1] bYes (e2 (opSub) (eC (.int 0)) (eVar 1))) aNil)))
    sNil)
def F__law_undone : SF := cutF (defF 1 2 u__law_undone)
def u__law_doing : SS := (sSeq (sSet 3 (eLc FZ (srcR1 (eCB F__law_pick (aCons (eVar 0) (aCons (e2 (opAdd FZ) (eVar 2) (eC (.int 1))) aNil)))) (gN 4) [4] bYes (e2 (opMulX FZ) (eCB F__law_of (aCons (eVar 0) (aCons (eLst FZ (aCons (eC (.int 1)) (aCons (e1 opNeg (eC (.int 1))) aNil))) aNil))) (e2 (opAdd FZ) (eC (.int 1)) (eCB F__law_pick (aCons (eVar 0) (aCons (eVar 1) aNil)))))))
    (sSeq (sRet (eCB F__law_net (aCons (eVar 3) aNil)))
    sNil))
def F__law_doing : SF := cutF (defF 3 5 u__law_doing)
def u__law_doings : SS := (sSeq (sSet 2 (eLst BX aNil))
    (sSeq (sFor (srcR1 (eCB F__law_pick (aCons (eVar 0) (aCons (eC (.int 5)) aNil)))) (gN 3) (sSeq (sSet 4 (eCB F__law_pick (aCons (eVar 0) (aCons (eC (.int 6)) aNil))))
    (sSeq (sSet 5 (eCB F__law_doing (aCons (eVar 0) (aCons (eVar 1) (aCons (eC (.int 5)) aNil)))))
    (sSeq (sIf (bAnd (bVal (e2 opEq (eVar 4) (eC (.int 0)))) (bVal (e2 opNe (eVar 2) (eLst FZ aNil)))) (sSeq (sSet 5 (eCB F__law_net (aCons (e2 (opAdd FZ) (eCB F__law_of (aCons (eVar 0) (aCons (eVar 2) aNil))) (eCB F__law_undone (aCons (eCB F__law_of (aCons (eVar 0) (aCons (eVar 2) aNil))) aNil))) aNil)))
    sNil) sNil)
    (sSeq (sIf (bAnd (bVal (e2 opEq (eVar 4) (eC (.int 1)))) (bVal (e2 opNe (eVar 2) (eLst FZ aNil)))) (sSeq (sSet 5 (eCB F__law_net (aCons (e2 (opAdd FZ) (e2 (opAdd FZ) (eSl FZ (eVar 5) oNone (oSome (eC (.int 2)))) (eCB F__law_of (aCons (eVar 0) (aCons (eVar 2) aNil)))) (eCB F__law_undone (aCons (eSl FZ (eVar 5) oNone (oSome (eC (.int 2)))) aNil))) aNil)))
    sNil) sNil)
    (sSeq (sIf (bVal (e2 opEq (eVar 4) (eC (.int 2)))) (sSeq (sSet 5 (eCB F__law_net (aCons (e2 (opMulX FZ) (eSl FZ (eVar 5) oNone (oSome (eC (.int 2)))) (eC (.int 3))) aNil)))
    sNil) sNil)
    (sSeq (sExpr (eMt ckL mtAppend (eVar 2) (aCons (eSl FZ (eVar 5) oNone (oSome (eC (.int 8)))) aNil)))
    sNil)))))))
    (sSeq (sRet (eVar 2))
    sNil)))
def F__law_doings : SF := cutF (defF 2 6 u__law_doings)
def u__law_rose : SS := (sSeq (sScope (sSeq (sAsg (eTup (aCons (eLst BX aNil) (aCons (eC (.int 1)) aNil))) (gT [(gN 1), (gN 2)])) (sSeq (sFor (srcV (eVar 0)) (gN 3) (sSeq (sSet 5 (e2 (opAdd FZ) (e2 (opAdd FZ) (eLst FZ (aCons (eC (.int 0)) aNil)) (eLc FZ (srcR1 (e2 (opSub) (eCB (biLen) (aCons (eVar 3) aNil)) (eC (.int 1)))) (gN 4) [4] bYes (e2 (opAdd FZ) (eVar 2) (eVar 4)))) (eLst FZ (aCons (eC (.int 0)) aNil))))
    (sSeq (sSet 2 (e2 (opAdd FZ) (eVar 2) (eCB (biMax) (aCons (eC (.int 0)) (aCons (e2 (opSub) (eCB (biLen) (aCons (eVar 3) aNil)) (eC (.int 1))) aNil)))))
    (sSeq (sFor (srcE (eVar 3)) (gT [(gN 4), (gN 6)]) (sSeq (sExpr (eMt ckL mtAppend (eVar 1) (aCons (eIf (bVal (e2 opGt (eVar 6) (eC (.int 0)))) (eTup (aCons (e2 opIx (eVar 5) (eVar 4)) (aCons (eVar 6) (aCons (e2 opIx (eVar 5) (e2 (opAdd FZ) (eVar 4) (eC (.int 1)))) aNil)))) (eTup (aCons (e2 opIx (eVar 5) (e2 (opAdd FZ) (eVar 4) (eC (.int 1)))) (aCons (e2 (opSub) (eC (.int 0)) (eVar 6)) (aCons (e2 opIx (eVar 5) (eVar 4)) aNil))))) aNil)))
    sNil))
    sNil)))) sNil)))
    (sSeq (sRet (eTup (aCons (eCB (opSorted FZ) (aCons (eCB (opDictT FZ) (aCons (eLc FZ (srcV (eVar 1)) (gN 7) [7] bYes (eTup (aCons (eVar 7) (aCons (eC (.int 0)) aNil)))) aNil)) aNil)) (aCons (eVar 2) aNil))))
    sNil))
def F__law_rose : SF := cutF (defF 1 8 u__law_rose)
def u__law_couples : SS := (sSeq (sSet 1 (eDNew BX (.dT [])))
    (sSeq (sFor (srcV (eVar 0)) (gT [(gN 2), (gN 3), (gN 4)]) (sSeq (sFor (srcV (eVar 0)) (gT [(gN 5), (gN 6), (gN 7)]) (sSeq (sIf (bAnd (bVal (e2 opEq (eVar 3) (eVar 6))) (bAnd (bVal (e2 opEq (eVar 2) (eVar 5))) (bVal (e2 opLt (eVar 4) (eVar 7))))) (sSeq (sDPut (eVar 1) (eTup (aCons (eVar 4) (aCons (eVar 7) aNil))) (eC (.int 0)))
    sNil) sNil)
    (sSeq (sIf (bAnd (bVal (e2 opEq (eVar 3) (eVar 6))) (bAnd (bVal (e2 opEq (eVar 4) (eVar 7))) (bVal (e2 opLt (eVar 2) (eVar 5))))) (sSeq (sDPut (eVar 1) (eTup (aCons (eVar 2) (aCons (eVar 5) aNil))) (eC (.int 0)))
    sNil) sNil)
    sNil)))
    sNil))
    (sSeq (sRet (eCB (opSorted FZ) (aCons (eVar 1) aNil)))
    sNil)))
def F__law_couples : SF := cutF (defF 1 8 u__law_couples)
def u__law_merged : SS := (sSeq (sAsg (eVar 1) (gT [(gN 2), (gN 3)]))
    (sSeq (sSet 4 (eLc FZ (srcV (eVar 0)) (gT [(gN 5), (gN 6), (gN 7)]) [5, 6, 7] bYes (eTup (aCons (eIf (bVal (e2 opEq (eVar 5) (eVar 3))) (eVar 2) (eVar 5)) (aCons (eVar 6) (aCons (eIf (bVal (e2 opEq (eVar 7) (eVar 3))) (eVar 2) (eVar 7)) aNil))))))
    (sSeq (sRet (eCB (opSorted FZ) (aCons (eCB (opDictT FZ) (aCons (eLc FZ (srcV (eVar 4)) (gN 8) [8] bYes (eTup (aCons (eVar 8) (aCons (eC (.int 0)) aNil)))) aNil)) aNil)))
    sNil)))
def F__law_merged : SF := cutF (defF 2 9 u__law_merged)
def u__law_folded : SS := (sSeq (sPar 3 4 (aCons (eLst BX aNil) (aCons (eCB F__law_couples (aCons (eVar 1) aNil)) aNil)))
    (sSeq (sWhile (bVal (e2 opNe (eVar 4) (eLst FZ aNil))) (sSeq (sSet 5 (eIf (bVal (eVar 2)) (e2 opIx (eVar 4) (eC (.int 0))) (eCB F__law_of (aCons (eVar 0) (aCons (eVar 4) aNil)))))
    (sSeq (sSet 5 (eIf (bOr (bVal (eVar 2)) (bOr (bVal (e2 opEq (eCB F__law_pick (aCons (eVar 0) (aCons (eC (.int 2)) aNil))) (eC (.int 0)))) (bVal (e2 opIn (eC (.int 0)) (eVar 5))))) (eVar 5) (eBack FZ (eVar 5))))
    (sSeq (sExpr (eMt ckL mtAppend (eVar 3) (aCons (eVar 5) aNil)))
    (sSeq (sSet 1 (eCB F__law_merged (aCons (eVar 1) (aCons (eVar 5) aNil))))
    (sSeq (sSet 4 (eCB F__law_couples (aCons (eVar 1) aNil)))
    sNil))))))
    (sSeq (sRet (eTup (aCons (eVar 1) (aCons (eCB (biTuple) (aCons (eVar 3) aNil)) aNil))))
    sNil)))
def F__law_folded : SF := cutF (defF 3 6 u__law_folded)
def u__law_signs : SS := (sSeq (sSet 1 (eLst FZ aNil))
    (sSeq (sFor (srcR2 (eC (.int 1)) (e2 (opAdd FZ) (eVar 0) (eC (.int 1)))) (gN 2) (sSeq (sSet 1 (e2 (opAdd FZ) (eVar 1) (eLst FZ (aCons (eVar 2) (aCons (e2 (opSub) (eC (.int 0)) (eVar 2)) aNil)))))
    sNil))
    (sSeq (sRet (eVar 1))
    sNil)))
def F__law_signs : SF := cutF (defF 1 3 u__law_signs)
def u__law_on : SS := (sSeq (sIf (bVal (e2 opGt (eVar 2) (eC (.int 0)))) (sSeq (sSet 3 (eLc FZ (srcV (eVar 0)) (gT [(gN 4), (gN 5), (gN 6)]) [4, 5, 6] (bAnd (bVal (e2 opEq (eVar 4) (eVar 1))) (bVal (e2 opEq (eVar 5) (eVar 2)))) (eVar 6)))
    sNil) (sSeq (sSet 3 (eLc FZ (srcV (eVar 0)) (gT [(gN 4), (gN 5), (gN 6)]) [4, 5, 6] (bAnd (bVal (e2 opEq (eVar 6) (eVar 1))) (bVal (e2 opEq (eVar 5) (e2 (opSub) (eC (.int 0)) (eVar 2))))) (eVar 4)))
    sNil))
    (sSeq (sRet (eIf (bVal (e2 opNe (eVar 3) (eLst FZ aNil))) (e2 opIx (eVar 3) (eC (.int 0))) (eC .non)))
    sNil))
def F__law_on : SF := cutF (defF 3 7 u__law_on)
def u__law_graph : SS := (sSeq (sAsg (eTup (aCons (eLst FZ (aCons (eC (.int 0)) aNil)) (aCons (eC (.int 0)) aNil))) (gT [(gN 2), (gN 3)]))
    (sSeq (sWhile (bVal (e2 opLt (eVar 3) (eCB (biLen) (aCons (eVar 2) aNil)))) (sSeq (sFor (srcV (eCB F__law_signs (aCons (eVar 0) aNil))) (gN 4) (sSeq (sSet 5 (eCB F__law_on (aCons (eVar 1) (aCons (e2 opIx (eVar 2) (eVar 3)) (aCons (eVar 4) aNil)))))
    (sSeq (sSet 2 (e2 (opAdd FZ) (eVar 2) (e2 (opMulX FZ) (eLst FZ (aCons (eVar 5) aNil)) (eCB (biInt) (aCons (eAnd (e2 opNotN (eVar 5) (eC .non)) (e2 opNotIn (eVar 5) (eVar 2))) aNil)))))
    sNil)))
    (sSeq (sSet 3 (e2 (opAdd FZ) (eVar 3) (eC (.int 1))))
    sNil)))
    (sSeq (sSet 6 (eLst BX aNil))
    (sSeq (sFor (srcV (eVar 2)) (gN 7) (sSeq (sSet 8 (eLst BX aNil))
    (sSeq (sFor (srcR2 (eC (.int 1)) (e2 (opAdd FZ) (eVar 0) (eC (.int 1)))) (gN 9) (sSeq (sSet 10 (eLst FZ (aCons (eCB F__law_on (aCons (eVar 1) (aCons (eVar 7) (aCons (eVar 9) aNil)))) (aCons (eCB F__law_on (aCons (eVar 1) (aCons (eVar 7) (aCons (e2 (opSub) (eC (.int 0)) (eVar 9)) aNil)))) aNil))))
    (sSeq (sExpr (eMt ckL mtAppend (eVar 8) (aCons (eCB (biTuple) (aCons (eLc FZ (srcV (eVar 10)) (gN 11) [11] bYes (eIf (bVal (e2 opNotN (eVar 11) (eC .non))) (eMt ckL mtIndex (eVar 2) (aCons (eVar 11) aNil)) (eC .non))) aNil)) aNil)))
    sNil)))
    (sSeq (sExpr (eMt ckL mtAppend (eVar 6) (aCons (eCB (biTuple) (aCons (eVar 8) aNil)) aNil)))
    sNil))))
    (sSeq (sRet (eCB (biTuple) (aCons (eVar 6) aNil)))
    sNil)))))
def F__law_graph : SF := cutF (defF 2 12 u__law_graph)
def u__law_read : SS := (sSeq (sFor (srcV (eVar 2)) (gN 3) (sSeq (sIf (bVal (e2 opNotN (eVar 1) (eC .non))) (sSeq (sSet 1 (e2 opIx (e2 opIx (e2 opIx (eVar 0) (eVar 1)) (e2 (opSub) (eCB (biAbs) (aCons (eVar 3) aNil)) (eC (.int 1)))) (eCB (biInt) (aCons (e2 opLt (eVar 3) (eC (.int 0))) aNil))))
    sNil) sNil)
    sNil))
    (sSeq (sRet (eVar 1))
    sNil))
def F__law_read : SF := cutF (defF 3 4 u__law_read)
def u__law_others : SS := (sSeq (sSet 2 (eLc BX (srcV (eCB F__law_mixed (aCons (eVar 0) (aCons (eVar 1) aNil)))) (gN 3) [3] bYes (eCB F__law_of (aCons (eVar 0) (aCons (eLst FZ (aCons (eVar 3) (aCons (eCB F__law_undone (aCons (eVar 3) aNil)) aNil))) aNil)))))
    (sSeq (sIf (bVal (e2 opNe (eVar 2) (eLst FZ aNil))) (sSeq (sExpr (eMt ckL mtAppend (eVar 2) (aCons (eCB F__law_net (aCons (e2 (opAdd FZ) (eCB F__law_of (aCons (eVar 0) (aCons (eVar 2) aNil))) (eCB F__law_of (aCons (eVar 0) (aCons (eVar 2) aNil)))) aNil)) aNil)))
    (sSeq (sExpr (eMt ckL mtAppend (eVar 2) (aCons (eCB F__law_net (aCons (e2 (opAdd FZ) (e2 (opAdd FZ) (e2 opIx (eVar 2) (eC (.int 0))) (eCB F__law_undone (aCons (e2 opIx (eVar 2) (e1 opNeg (eC (.int 1)))) aNil))) (e2 opIx (eVar 2) (eC (.int 0)))) aNil)) aNil)))
    sNil)) sNil)
    (sSeq (sRet (eCB F__law_mixed (aCons (eVar 0) (aCons (e2 (opAdd FZ) (eVar 2) (eLst FZ (aCons (eTup aNil) aNil))) aNil))))
    sNil)))
def F__law_others : SF := cutF (defF 2 4 u__law_others)
def u_law : SS := (sSeq (sSet 1 (eCB F__law_source (aCons (eVar 0) aNil)))
    (sSeq (sSet 2 (e2 (opAdd FZ) (eC (.int 1)) (eCB F__law_pick (aCons (eVar 1) (aCons (eC (.int 3)) aNil)))))
    (sSeq (sSet 3 (eCB F__law_doings (aCons (eVar 1) (aCons (eVar 2) aNil))))
    (sSeq (sAsg (eCB F__law_rose (aCons (eVar 3) aNil)) (gT [(gN 4), (gN 5)]))
    (sSeq (sAsg (eCB F__law_folded (aCons (eVar 1) (aCons (eVar 4) (aCons (eC (.bl true)) aNil)))) (gT [(gN 6), (gN 7)]))
    (sSeq (sSet 8 (eCB F__law_graph (aCons (eVar 2) (aCons (eVar 6) aNil))))
    (sSeq (sIf (bVal (e2 opNe (eCB (biRepr) (aCons (eCB F_folded_graph (aCons (eVar 2) (aCons (eCB (biTuple) (aCons (eVar 3) aNil)) aNil))) aNil)) (eCB (biRepr) (aCons (eTup (aCons (eVar 8) (aCons (eVar 7) aNil))) aNil)))) (sSeq (sRet (eC (.bl false)))
    sNil) sNil)
    (sSeq (sIf (bVal (e2 opNe (eCB (biRepr) (aCons (eCB F__law_graph (aCons (eVar 2) (aCons (e2 opIx (eCB F__law_folded (aCons (eVar 1) (aCons (eVar 4) (aCons (eC (.bl false)) aNil)))) (eC (.int 0))) aNil))) aNil)) (eCB (biRepr) (aCons (eVar 8) aNil)))) (sSeq (sRet (eC (.bl false)))
    sNil) sNil)
    (sSeq (sFor (srcR1 (eC (.int 2))) (gN 9) (sSeq (sSet 10 (eCB (biTuple) (aCons (eCB F__law_others (aCons (eVar 1) (aCons (eVar 3) aNil))) aNil)))
    (sSeq (sIf (bVal (e2 opNe (eCB (biRepr) (aCons (e2 opIx (eCB F_folded_graph (aCons (eVar 2) (aCons (eVar 10) aNil))) (eC (.int 0))) aNil)) (eCB (biRepr) (aCons (eVar 8) aNil)))) (sSeq (sRet (eC (.bl false)))
    sNil) sNil)
    sNil)))
    (sSeq (sSet 11 (e2 opEq (eCB (biLen) (aCons (eVar 6) aNil)) (e2 (opMulX FZ) (eVar 2) (eCB (biLen) (aCons (eVar 8) aNil)))))
    (sSeq (sPar 12 13 (aCons (eLst BX (aCons (eCB F_group_rank (aCons (eVar 8) aNil)) (aCons (eCB F_group_index (aCons (eVar 8) aNil)) aNil))) (aCons (eLst FZ (aCons (e2 (opSub) (e2 (opAdd FZ) (eC (.int 1)) (eCB (biLen) (aCons (eVar 6) aNil))) (eCB (biLen) (aCons (eVar 8) aNil))) (aCons (eIf (bVal (eVar 11)) (eCB (biLen) (aCons (eVar 8) aNil)) (eC .non)) aNil))) aNil)))
    (sSeq (sIf (bVal (e2 opNe (eCB (biRepr) (aCons (eVar 12) aNil)) (eCB (biRepr) (aCons (eVar 13) aNil)))) (sSeq (sRet (eC (.bl false)))
    sNil) sNil)
    (sSeq (sScope (sSeq (sSet 14 (e2 (opAdd BX) (eLst FZ (aCons (eTup aNil) aNil)) (eVar 3))) (sSeq (sFor (srcR1 (eC (.int 4))) (gN 9) (sSeq (sExpr (eMt ckL mtAppend (eVar 14) (aCons (eCB F__law_net (aCons (e2 (opAdd FZ) (eCB F__law_of (aCons (eVar 1) (aCons (eVar 14) aNil))) (eCB F__law_undone (aCons (eCB F__law_of (aCons (eVar 1) (aCons (eVar 14) aNil))) aNil))) aNil)) aNil)))
    sNil)) sNil)))
    (sSeq (sFor (srcV (e2 (opAdd FZ) (eVar 14) (eLc FZ (srcR1 (eC (.int 4))) (gN 9) [9] bYes (eCB F__law_doing (aCons (eVar 1) (aCons (eVar 2) (aCons (eC (.int 6)) aNil))))))) (gN 15) (sSeq (sSet 16 (eCB F__law_pick (aCons (eVar 1) (aCons (eCB (biLen) (aCons (eVar 8) aNil)) aNil))))
    (sSeq (sSet 12 (eLst BX (aCons (eCB F_is_member (aCons (eVar 8) (aCons (eVar 15) aNil))) (aCons (eCB F_read_row (aCons (eVar 8) (aCons (eC (.int 0)) (aCons (eVar 15) aNil)))) (aCons (eCB F_read_row (aCons (eVar 8) (aCons (eVar 16) (aCons (eVar 15) aNil)))) aNil)))))
    (sSeq (sIf (bVal (e2 opNe (eCB (biRepr) (aCons (eVar 12) aNil)) (eCB (biRepr) (aCons (eLst FZ (aCons (e2 opEq (eCB F__law_read (aCons (eVar 8) (aCons (eC (.int 0)) (aCons (eVar 15) aNil)))) (eC (.int 0))) (aCons (eCB F__law_read (aCons (eVar 8) (aCons (eC (.int 0)) (aCons (eVar 15) aNil)))) (aCons (eCB F__law_read (aCons (eVar 8) (aCons (eVar 16) (aCons (eVar 15) aNil)))) aNil)))) aNil)))) (sSeq (sRet (eC (.bl false)))
    sNil) sNil)
    sNil))))
    (sSeq (sIf (bVal (e2 opNe (eLc FZ (srcV (eVar 14)) (gN 15) [15] (bVal (e2 opNe (eCB F__law_read (aCons (eVar 8) (aCons (eC (.int 0)) (aCons (eVar 15) aNil)))) (eC (.int 0)))) (eVar 15)) (eLst FZ aNil))) (sSeq (sRet (eC (.bl false)))
    sNil) sNil)
    (sSeq (sIf (bVal (e2 opGt (eCB F__law_pick (aCons (eVar 1) (aCons (eC (.int 12)) aNil))) (eC (.int 0)))) (sSeq (sRet (eC (.bl true)))
    sNil) sNil)
    sNil))))))))))))))))
section
variable {P : Program} {w : World} {K : PySem.W.Frag} {mg : Str → Option Value} {base : Heap} {tg fI : Addr}
theorem b_act_signs (T : Tx P K mg tg fI)  {f : Addr} {cdv : Value} {A : Around} {outer : List Env} {s : Shared} {H : Hp} {E : XK} (hr : Room 0 (A.deeper (envOfC "act_signs" (defScope s_act_signs) s.heap.objs.size f cdv)))  :
    JB (cxOf (L2.CX P w) P w K mg base N_act_signs "act_signs" (defScope s_act_signs) f cdv A outer s H E) tg E (defBody s_act_signs) u_act_signs := by
  exact (jb_cons (js_set (ps_set (i := 1) sc_act_signs.nd rfl (by first | exact Or.inl rfl | exact Or.inr rfl) (j_lst (fin := BX) (pe_lst ja_nil))))
    (jb_cons (js_for (ps_for (passes_of rfl) rfl (ji_range2 (pi_range2 rfl T.b_range (ja_cons j_int (ja_cons (j_bin op_addD (k_add (fin := FZ)) (jv 0) j_int) ja_nil)))) (jg_name (i := 2) sc_act_signs.nd rfl (by first | exact Or.inl rfl | exact Or.inr rfl)) (jb_cons (js_expr (j_mt ty_list k_extend (pe_bm PySem.F.plainAttrs_list PySem.F.slot_list_extend PySem.F.type_list_extend mt_extend (jv 1) (ja_cons (j_lst (fin := FZ) (pe_lst (ja_cons (jv 2) (ja_cons (j_un un_neg k_neg (jv 2)) ja_nil)))) ja_nil))))
    jb_nil)))
    (jb_cons (js_ret (jv 1))
    jb_nil)))
theorem b_rose_edges (T : Tx P K mg tg fI)  {f : Addr} {cdv : Value} {A : Around} {outer : List Env} {s : Shared} {H : Hp} {E : XK} (hr : Room 0 (A.deeper (envOfC "rose_edges" (defScope s_rose_edges) s.heap.objs.size f cdv)))  :
    JB (cxOf (L2.CX P w) P w K mg base N_rose_edges "rose_edges" (defScope s_rose_edges) f cdv A outer s H E) tg E (defBody s_rose_edges) u_rose_edges := by
  exact (jb_cons (ps_weak (ps_par (i := 1) (j := 2) rfl sc_rose_edges.nd rfl rfl (by decide) rfl rfl (ja_cons (j_lst (fin := BX) (pe_lst ja_nil)) (ja_cons j_int ja_nil)) rfl) tPar_of)
    (jb_cons (js_for (ps_for (passes_of rfl) rfl (ji_seq (pi_seq (jv 0))) (jg_name (i := 3) sc_rose_edges.nd rfl (by first | exact Or.inl rfl | exact Or.inr rfl)) (jb_cons (js_set (ps_set (i := 4) sc_rose_edges.nd rfl (by first | exact Or.inl rfl | exact Or.inr rfl) j_int))
    (jb_cons (js_for (ps_for (passes_of rfl) rfl (ji_enum (pi_en rfl T.b_enumerate (ja_cons (jv 3) ja_nil))) (jg_tup (pg_tup rfl (jgs_cons (pgs_cons (jg_name (i := 5) sc_rose_edges.nd rfl (by first | exact Or.inl rfl | exact Or.inr rfl)) (jgs_cons (pgs_cons (jg_name (i := 6) sc_rose_edges.nd rfl (by first | exact Or.inl rfl | exact Or.inr rfl)) jgs_nil)))))) (jb_cons (js_set (ps_set (i := 7) sc_rose_edges.nd rfl (by first | exact Or.inl rfl | exact Or.inr rfl) (j_if (jt_cmpR op_lt (nomark _) k_lt (j_bin op_addD (k_add (fin := FZ)) (jv 5) j_int) (j_bi k_len (pe_callB call_len (by rfl) T.b_len PySem.boot_len (ja_cons (jv 3) ja_nil)))) (jv 2) j_int)))
    (jb_cons (js_aug k_ipAdd (ps_aug (i := 2) sc_rose_edges.nd rfl (by first | exact Or.inl rfl | exact Or.inr rfl) (j_bi k_int1 (pe_callTy call_int1 (by rfl) T.b_int boot_int (ja_cons (j_cmp op_lt (nomark _) k_lt (j_bin op_addD (k_add (fin := FZ)) (jv 5) j_int) (j_bi k_len (pe_callB call_len (by rfl) T.b_len PySem.boot_len (ja_cons (jv 3) ja_nil)))) ja_nil))) ip_add))
    (jb_cons (js_expr (j_mt ty_list k_append (pe_bm PySem.F.plainAttrs_list PySem.F.slot_list_append PySem.F.type_list_append mt_append (jv 1) (ja_cons (j_if (jt_cmpR op_gt (nomark _) k_gt (jv 6) j_int) (j_tup (ja_cons (jv 4) (ja_cons (jv 6) (ja_cons (jv 7) ja_nil)))) (j_tup (ja_cons (jv 7) (ja_cons (j_un un_neg k_neg (jv 6)) (ja_cons (jv 4) ja_nil))))) ja_nil))))
    (jb_cons (js_set (ps_set (i := 4) sc_rose_edges.nd rfl (by first | exact Or.inl rfl | exact Or.inr rfl) (jv 7)))
    jb_nil))))))
    jb_nil))))
    (jb_cons (js_if (jt_cmpR op_gt (nomark _) k_gt (jv 2) (j_const (v := .int 300) (pe_glob rfl T.c_MOST_PLACES.choose_spec ⟨_, rfl⟩) fun _ => rfl)) (jb_cons (js_raise rfl T.too hr (takes_of rfl rfl rfl rfl) (j_const (v := .int 2) (pe_glob rfl T.c_TOO_MANY.choose_spec ⟨_, rfl⟩) fun _ => rfl))
    jb_nil) jb_nil)
    (jb_cons (js_ret (j_tup (ja_cons (jv 1) (ja_cons (jv 2) ja_nil))))
    jb_nil))))
theorem b_ends_of (T : Tx P K mg tg fI)  {f : Addr} {cdv : Value} {A : Around} {outer : List Env} {s : Shared} {H : Hp} {E : XK} (hr : Room 0 (A.deeper (envOfC "ends_of" (defScope s_ends_of) s.heap.objs.size f cdv)))  :
    JB (cxOf (L2.CX P w) P w K mg base N_ends_of "ends_of" (defScope s_ends_of) f cdv A outer s H E) tg E (defBody s_ends_of) u_ends_of := by
  exact (jb_sc2 (js_set (ps_set (i := 1) sc_ends_of.nd rfl (by first | exact Or.inl rfl | exact Or.inr rfl) (j_dnewT (fin := BX) pe_dnewT))) (js_for (ps_for (passes_of rfl) rfl (ji_seq (pi_seq (jv 0))) (jg_tup (pg_tup rfl (jgs_cons (pgs_cons (jg_name (i := 2) sc_ends_of.nd rfl (by first | exact Or.inl rfl | exact Or.inr rfl)) (jgs_cons (pgs_cons (jg_name (i := 3) sc_ends_of.nd rfl (by first | exact Or.inl rfl | exact Or.inr rfl)) (jgs_cons (pgs_cons (jg_name (i := 4) sc_ends_of.nd rfl (by first | exact Or.inl rfl | exact Or.inr rfl)) jgs_nil)))))))) (jb_cons (js_dput (ps_dput (hu_of hr) (j_mt ty_dict k_set (pe_bm PySem.F.plainAttrs_dict PySem.F.slot_dict_setdefault PySem.F.type_dict_setdefault (mt_setT (hu_of hr)) (jv 1) (ja_cons (j_tup (ja_cons (jv 2) (ja_cons (jv 3) ja_nil))) (ja_cons (j_dnewK (fin := BX) pe_dnewK) ja_nil)))) (jv 4) j_bl rfl))
    (jb_cons (js_dput (ps_dput (hu_of hr) (j_mt ty_dict k_set (pe_bm PySem.F.plainAttrs_dict PySem.F.slot_dict_setdefault PySem.F.type_dict_setdefault (mt_setT (hu_of hr)) (jv 1) (ja_cons (j_tup (ja_cons (jv 4) (ja_cons (j_un un_neg k_neg (jv 3)) ja_nil))) (ja_cons (j_dnewK (fin := BX) pe_dnewK) ja_nil)))) (jv 2) j_bl rfl))
    jb_nil))))
    (jb_cons (js_ret (j_bi (k_dictT (fin := FZ)) (pe_callTy (call_dictT rfl (hu2_of hr)) (by rfl) T.b_dict boot_dict (ja_cons (j_lc (fin := FZ) (vs := [5, 6]) (c := bYes) (el := (eTup (aCons (eVar 5) (aCons (eCB (opSorted FZ) (aCons (eVar 6) aNil)) aNil)))) (gr_tup (grs_cons (gr_name (i := 5)) (grs_cons (gr_name (i := 6)) grs_nil (gName_mono 6) gNil_mono) (gName_mono 5) (gCons_mono (gName_mono 6) gNil_mono))) (gTup_mono (gCons_mono (gName_mono 5) (gCons_mono (gName_mono 6) gNil_mono))) (pe_lc (own := [("key", 5), ("some", 6)]) rfl sc_ends_of.nd (ji_items (jv 1)) (blkOk_by (N := N_ends_of) (sc := defScope s_ends_of) (own := [("key", 5), ("some", 6)]) (by decide +kernel)) (fun _ _ _ _ _ => (pg_tup rfl (pgs_cons (pg_name (i := 5) sc_ends_of.nd rfl (by first | exact Or.inl rfl | exact Or.inr rfl)) (pgs_cons (pg_name (i := 6) sc_ends_of.nd rfl (by first | exact Or.inl rfl | exact Or.inr rfl)) pgs_nil)))) (fun _ _ _ _ _ => jts_nil) (fun _ _ _ _ _ => (j_tup (ja_cons (jv 5) (ja_cons (j_bi (k_sorted (fin := FZ)) (pe_callB (call_sortX rfl hr.units) (by rfl) T.b_sorted boot_sorted (ja_cons (jv 6) ja_nil))) ja_nil)))))) ja_nil))))
    jb_nil))
theorem b_couples_to_fold (T : Tx P K mg tg fI) (D_ends_of : DOk P w K mg base tg 1 "ends_of" F_ends_of) {f : Addr} {cdv : Value} {A : Around} {outer : List Env} {s : Shared} {H : Hp} {E : XK} (hr : Room 1 (A.deeper (envOfC "couples_to_fold" (defScope s_couples_to_fold) s.heap.objs.size f cdv)))  :
    JB (cxOf (L2.CX P w) P w K mg base N_couples_to_fold "couples_to_fold" (defScope s_couples_to_fold) f cdv A outer s H E) tg E (defBody s_couples_to_fold) u_couples_to_fold := by
  have hr_ends_of := hr.mono (show 1 ≤ 1 by decide)
  exact (jb_cons (js_set (ps_set (i := 1) sc_couples_to_fold.nd rfl (by first | exact Or.inl rfl | exact Or.inr rfl) (j_dnewT (fin := BX) pe_dnewT)))
    (jb_cons (js_for (ps_for (passes_of rfl) rfl (ji_values (j_call D_ends_of fun _ _ _ F m kp b => pe_call F hr_ends_of rfl m kp b .nil (passX rfl rfl rfl rfl) (ja_cons (jv 0) ja_nil))) (jg_name (i := 2) sc_couples_to_fold.nd rfl (by first | exact Or.inl rfl | exact Or.inr rfl)) (jb_cons (js_for (ps_for (passes_of rfl) rfl (ji_enum (pi_en rfl T.b_enumerate (ja_cons (jv 2) ja_nil))) (jg_tup (pg_tup rfl (jgs_cons (pgs_cons (jg_name (i := 3) sc_couples_to_fold.nd rfl (by first | exact Or.inl rfl | exact Or.inr rfl)) (jgs_cons (pgs_cons (jg_name (i := 4) sc_couples_to_fold.nd rfl (by first | exact Or.inl rfl | exact Or.inr rfl)) jgs_nil)))))) (jb_cons (js_expr (j_mt ty_dict k_updT (pe_bm PySem.F.plainAttrs_dict PySem.F.slot_dict_update PySem.F.type_dict_update (mt_updT rfl (hu_of hr)) (jv 1) (ja_cons (j_lc (fin := FZ) (vs := [5]) (c := bYes) (el := (eTup (aCons (eTup (aCons (eVar 4) (aCons (eVar 5) aNil))) (aCons (eC (.bl true)) aNil)))) (gr_name (i := 5)) (gName_mono 5) (pe_lc (own := [("other", 5)]) rfl sc_couples_to_fold.nd (ji_seq (pi_seq (j_sl (fin := FZ) (pe_slice sl_any (jv 2) (jo_some (j_bin op_addD (k_add (fin := FZ)) (jv 3) j_int)) jo_none)))) (blkOk_by (N := N_couples_to_fold) (sc := defScope s_couples_to_fold) (own := [("other", 5)]) (by decide +kernel)) (fun _ _ _ _ _ => (pg_name (i := 5) sc_couples_to_fold.nd rfl (by first | exact Or.inl rfl | exact Or.inr rfl))) (fun _ _ _ _ _ => jts_nil) (fun _ _ _ _ _ => (j_tup (ja_cons (j_tup (ja_cons (jv 4) (ja_cons (jv 5) ja_nil))) (ja_cons j_bl ja_nil)))))) ja_nil))))
    jb_nil)))
    jb_nil)))
    (jb_cons (js_ret (j_bi (k_sorted (fin := FZ)) (pe_callB (call_sortX rfl hr.units) (by rfl) T.b_sorted boot_sorted (ja_cons (jv 1) ja_nil))))
    jb_nil)))
theorem b_folded_once (T : Tx P K mg tg fI)  {f : Addr} {cdv : Value} {A : Around} {outer : List Env} {s : Shared} {H : Hp} {E : XK} (hr : Room 0 (A.deeper (envOfC "folded_once" (defScope s_folded_once) s.heap.objs.size f cdv)))  :
    JB (cxOf (L2.CX P w) P w K mg base N_folded_once "folded_once" (defScope s_folded_once) f cdv A outer s H E) tg E (defBody s_folded_once) u_folded_once := by
  exact (jb_cons (js_asg (ps_asg (jv 1) (jg_tup (pg_tup rfl (jgs_cons (pgs_cons (jg_name (i := 2) sc_folded_once.nd rfl (by first | exact Or.inl rfl | exact Or.inr rfl)) (jgs_cons (pgs_cons (jg_name (i := 3) sc_folded_once.nd rfl (by first | exact Or.inl rfl | exact Or.inr rfl)) jgs_nil))))))))
    (jb_cons (js_set (ps_set (i := 4) sc_folded_once.nd rfl (by first | exact Or.inl rfl | exact Or.inr rfl) (j_dnewT (fin := BX) pe_dnewT)))
    (jb_cons (js_for (ps_for (passes_of rfl) rfl (ji_seq (pi_seq (jv 0))) (jg_tup (pg_tup rfl (jgs_cons (pgs_cons (jg_name (i := 5) sc_folded_once.nd rfl (by first | exact Or.inl rfl | exact Or.inr rfl)) (jgs_cons (pgs_cons (jg_name (i := 6) sc_folded_once.nd rfl (by first | exact Or.inl rfl | exact Or.inr rfl)) (jgs_cons (pgs_cons (jg_name (i := 7) sc_folded_once.nd rfl (by first | exact Or.inl rfl | exact Or.inr rfl)) jgs_nil)))))))) (jb_cons (js_dput (ps_dput (hu_of hr) (jv 4) (j_tup (ja_cons (j_if (jt_cmpR (op_eqX hr.units) (nomark _) k_eq (jv 5) (jv 3)) (jv 2) (jv 5)) (ja_cons (jv 6) (ja_cons (j_if (jt_cmpR (op_eqX hr.units) (nomark _) k_eq (jv 7) (jv 3)) (jv 2) (jv 7)) ja_nil)))) j_bl rfl))
    jb_nil)))
    (jb_cons (js_ret (j_bi (k_list (fin := FZ)) (pe_callTy (call_listX rfl) (by rfl) T.b_list boot_list (ja_cons (jv 4) ja_nil))))
    jb_nil))))
theorem b_folded_edges (T : Tx P K mg tg fI) (D_couples_to_fold : DOk P w K mg base tg 2 "couples_to_fold" F_couples_to_fold) (D_folded_once : DOk P w K mg base tg 1 "folded_once" F_folded_once) {f : Addr} {cdv : Value} {A : Around} {outer : List Env} {s : Shared} {H : Hp} {E : XK} (hr : Room 2 (A.deeper (envOfC "folded_edges" (defScope s_folded_edges) s.heap.objs.size f cdv)))  :
    JB (cxOf (L2.CX P w) P w K mg base N_folded_edges "folded_edges" (defScope s_folded_edges) f cdv A outer s H E) tg E (defBody s_folded_edges) u_folded_edges := by
  have hr_couples_to_fold := hr.mono (show 2 ≤ 2 by decide)
  have hr_folded_once := hr.mono (show 1 ≤ 2 by decide)
  exact (jb_cons (ps_weak (ps_par (i := 1) (j := 2) rfl sc_folded_edges.nd rfl rfl (by decide) rfl rfl (ja_cons (j_lst (fin := BX) (pe_lst ja_nil)) (ja_cons (j_call D_couples_to_fold fun _ _ _ F m kp b => pe_call F hr_couples_to_fold rfl m kp b .nil (passX rfl rfl rfl rfl) (ja_cons (jv 0) ja_nil)) ja_nil)) rfl) tPar_of)
    (jb_cons (js_while (passes_of rfl) (jt_cmpR (op_neX hr.units) (nomark _) k_ne (jv 2) (j_lst (fin := FZ) (pe_lst ja_nil))) (jb_cons (js_expr (j_mt ty_list k_append (pe_bm PySem.F.plainAttrs_list PySem.F.slot_list_append PySem.F.type_list_append mt_append (jv 1) (ja_cons (j_ix ix_any k_ix (fun _ _ => rfl) (jv 2) j_int) ja_nil))))
    (jb_cons (js_set (ps_set (i := 0) sc_folded_edges.nd rfl (by first | exact Or.inl rfl | exact Or.inr rfl) (j_call D_folded_once fun _ _ _ F m kp b => pe_call F hr_folded_once rfl m kp b .nil (passX rfl rfl rfl rfl) (ja_cons (jv 0) (ja_cons (j_ix ix_any k_ix (fun _ _ => rfl) (jv 2) j_int) ja_nil)))))
    (jb_cons (js_set (ps_set (i := 2) sc_folded_edges.nd rfl (by first | exact Or.inl rfl | exact Or.inr rfl) (j_call D_couples_to_fold fun _ _ _ F m kp b => pe_call F hr_couples_to_fold rfl m kp b .nil (passX rfl rfl rfl rfl) (ja_cons (jv 0) ja_nil))))
    jb_nil))))
    (jb_cons (js_ret (j_tup (ja_cons (jv 0) (ja_cons (j_bi k_tuple (pe_callTy call_tuple_of (by rfl) T.b_tuple boot_tuple (ja_cons (jv 1) ja_nil))) ja_nil))))
    jb_nil)))
theorem b_numbered_graph (T : Tx P K mg tg fI) (D_act_signs : DOk P w K mg base tg 1 "act_signs" F_act_signs) (D_ends_of : DOk P w K mg base tg 1 "ends_of" F_ends_of) {f : Addr} {cdv : Value} {A : Around} {outer : List Env} {s : Shared} {H : Hp} {E : XK} (hr : Room 1 (A.deeper (envOfC "numbered_graph" (defScope s_numbered_graph) s.heap.objs.size f cdv)))  :
    JB (cxOf (L2.CX P w) P w K mg base N_numbered_graph "numbered_graph" (defScope s_numbered_graph) f cdv A outer s H E) tg E (defBody s_numbered_graph) u_numbered_graph := by
  have hr_act_signs := hr.mono (show 1 ≤ 1 by decide)
  have hr_ends_of := hr.mono (show 1 ≤ 1 by decide)
  exact (jb_sc2 (js_asg (ps_asg (j_tup (ja_cons (j_call D_ends_of fun _ _ _ F m kp b => pe_call F hr_ends_of rfl m kp b .nil (passX rfl rfl rfl rfl) (ja_cons (jv 1) ja_nil)) (ja_cons (j_lst (fin := BX) (pe_lst (ja_cons j_int ja_nil))) (ja_cons (j_disp (ps := [((eC (.int 0)), (eC (.int 0)))]) (pe_disp (pps_cons j_int j_int pps_nil) rfl rfl (by simp) (by decide))) (ja_cons j_int ja_nil))))) (jg_tup (pg_tup rfl (jgs_cons (pgs_cons (jg_name (i := 2) sc_numbered_graph.nd rfl (by first | exact Or.inl rfl | exact Or.inr rfl)) (jgs_cons (pgs_cons (jg_name (i := 3) sc_numbered_graph.nd rfl (by first | exact Or.inl rfl | exact Or.inr rfl)) (jgs_cons (pgs_cons (jg_name (i := 4) sc_numbered_graph.nd rfl (by first | exact Or.inl rfl | exact Or.inr rfl)) (jgs_cons (pgs_cons (jg_name (i := 5) sc_numbered_graph.nd rfl (by first | exact Or.inl rfl | exact Or.inr rfl)) jgs_nil)))))))))))) (js_while (passes_of rfl) (jt_cmpR op_lt (nomark _) k_lt (jv 5) (j_bi k_len (pe_callB call_len (by rfl) T.b_len PySem.boot_len (ja_cons (jv 3) ja_nil)))) (jb_cons (js_for (ps_for (passes_of rfl) rfl (ji_seq (pi_seq (j_call D_act_signs fun _ _ _ F m kp b => pe_call F hr_act_signs rfl m kp b .nil (passX rfl rfl rfl rfl) (ja_cons (jv 0) ja_nil)))) (jg_name (i := 6) sc_numbered_graph.nd rfl (by first | exact Or.inl rfl | exact Or.inr rfl)) (jb_cons (js_for (ps_for (passes_of rfl) rfl (ji_seq (pi_seq (j_get2 (pe_dget2 (hu_of hr) (jv 2) (j_tup (ja_cons (j_ix ix_any k_ix (fun _ _ => rfl) (jv 3) (jv 5)) (ja_cons (jv 6) ja_nil))) (j_lst (fin := FZ) (pe_lst ja_nil)) ⟨rfl, rfl, rfl, rfl⟩)))) (jg_name (i := 7) sc_numbered_graph.nd rfl (by first | exact Or.inl rfl | exact Or.inr rfl)) (jb_cons (js_if (jt_pc (pc_dnotin (hu_of hr) (jv 7) (jv 4)) rfl dnot_of) (jb_cons (js_dput (ps_dput (hu_of hr) (jv 4) (jv 7) (j_bi k_len (pe_callB call_len (by rfl) T.b_len PySem.boot_len (ja_cons (jv 3) ja_nil))) rfl))
    (jb_cons (js_expr (j_mt ty_list k_append (pe_bm PySem.F.plainAttrs_list PySem.F.slot_list_append PySem.F.type_list_append mt_append (jv 3) (ja_cons (jv 7) ja_nil))))
    jb_nil)) jb_nil)
    jb_nil)))
    jb_nil)))
    (jb_cons (js_aug k_ipAdd (ps_aug (i := 5) sc_numbered_graph.nd rfl (by first | exact Or.inl rfl | exact Or.inr rfl) j_int ip_add))
    jb_nil)))
    (jb_cons (js_set (ps_set (i := 8) sc_numbered_graph.nd rfl (by first | exact Or.inl rfl | exact Or.inr rfl) (j_lst (fin := BX) (pe_lst ja_nil))))
    (jb_cons (js_for (ps_for (passes_of rfl) rfl (ji_seq (pi_seq (jv 3))) (jg_name (i := 9) sc_numbered_graph.nd rfl (by first | exact Or.inl rfl | exact Or.inr rfl)) (jb_cons (js_set (ps_set (i := 10) sc_numbered_graph.nd rfl (by first | exact Or.inl rfl | exact Or.inr rfl) (j_lst (fin := BX) (pe_lst ja_nil))))
    (jb_cons (js_for (ps_for (passes_of rfl) rfl (ji_range2 (pi_range2 rfl T.b_range (ja_cons j_int (ja_cons (j_bin op_addD (k_add (fin := FZ)) (jv 0) j_int) ja_nil)))) (jg_name (i := 11) sc_numbered_graph.nd rfl (by first | exact Or.inl rfl | exact Or.inr rfl)) (jb_cons (js_setLc (i := 12) (fin := FZ) (vs := [6]) (c := bYes) (el := (eGet2 (eVar 2) (eTup (aCons (eVar 9) (aCons (eVar 6) aNil))) (eLst FZ aNil))) (gr_name (i := 6)) (gName_mono 6) (ps_setLc (i := 12) (own := [("sign", 6)]) rfl sc_numbered_graph.nd rfl rfl (sw_true rfl rfl rfl (by decide +kernel)) (ji_seq (pi_seq (j_tup (ja_cons (jv 11) (ja_cons (j_un un_neg k_neg (jv 11)) ja_nil))))) (blkOk_by (N := N_numbered_graph) (sc := defScope s_numbered_graph) (own := [("sign", 6)]) (by decide +kernel)) (fun _ _ _ _ _ => (pg_name (i := 6) sc_numbered_graph.nd rfl (by first | exact Or.inl rfl | exact Or.inr rfl))) (fun _ _ _ _ _ => jts_nil) (fun _ _ _ _ _ => (j_get2 (pe_dget2 (hu_of hr) (jv 2) (j_tup (ja_cons (jv 9) (ja_cons (jv 6) ja_nil))) (j_lst (fin := FZ) (pe_lst ja_nil)) ⟨rfl, rfl, rfl, rfl⟩)))))
    (jb_cons (js_expr (j_mt ty_list k_append (pe_bm PySem.F.plainAttrs_list PySem.F.slot_list_append PySem.F.type_list_append mt_append (jv 10) (ja_cons (j_bi k_tuple (pe_callTy call_tuple_of (by rfl) T.b_tuple boot_tuple (ja_cons (j_lc (fin := FZ) (vs := [13]) (c := bYes) (el := (eIf (bVal (e2 opNe (eVar 13) (eLst FZ aNil))) (eDGet (eVar 4) (e2 opIx (eVar 13) (eC (.int 0)))) (eC .non))) (gr_name (i := 13)) (gName_mono 13) (pe_lc (own := [("some", 13)]) rfl sc_numbered_graph.nd (ji_seq (pi_seq (jv 12))) (blkOk_by (N := N_numbered_graph) (sc := defScope s_numbered_graph) (own := [("some", 13)]) (by decide +kernel)) (fun _ _ _ _ _ => (pg_name (i := 13) sc_numbered_graph.nd rfl (by first | exact Or.inl rfl | exact Or.inr rfl))) (fun _ _ _ _ _ => jts_nil) (fun _ _ _ _ _ => (j_if (jt_cmpR (op_neX hr.units) (nomark _) k_ne (jv 13) (j_lst (fin := FZ) (pe_lst ja_nil))) (j_dget (pe_dget (hu_of hr) (jv 4) (j_ix ix_any k_ix (fun _ _ => rfl) (jv 13) j_int) fun _ _ => rfl)) j_non)))) ja_nil))) ja_nil))))
    jb_nil))))
    (jb_cons (js_expr (j_mt ty_list k_append (pe_bm PySem.F.plainAttrs_list PySem.F.slot_list_append PySem.F.type_list_append mt_append (jv 8) (ja_cons (j_bi k_tuple (pe_callTy call_tuple_of (by rfl) T.b_tuple boot_tuple (ja_cons (jv 10) ja_nil))) ja_nil))))
    jb_nil)))))
    (jb_cons (js_ret (j_bi k_tuple (pe_callTy call_tuple_of (by rfl) T.b_tuple boot_tuple (ja_cons (jv 8) ja_nil))))
    jb_nil))))
theorem b_folded_graph (T : Tx P K mg tg fI) (D_folded_edges : DOk P w K mg base tg 3 "folded_edges" F_folded_edges) (D_numbered_graph : DOk P w K mg base tg 2 "numbered_graph" F_numbered_graph) (D_rose_edges : DOk P w K mg base tg 1 "rose_edges" F_rose_edges) {f : Addr} {cdv : Value} {A : Around} {outer : List Env} {s : Shared} {H : Hp} {E : XK} (hr : Room 3 (A.deeper (envOfC "folded_graph" (defScope s_folded_graph) s.heap.objs.size f cdv)))  :
    JB (cxOf (L2.CX P w) P w K mg base N_folded_graph "folded_graph" (defScope s_folded_graph) f cdv A outer s H E) tg E (defBody s_folded_graph) u_folded_graph := by
  have hr_folded_edges := hr.mono (show 3 ≤ 3 by decide)
  have hr_numbered_graph := hr.mono (show 2 ≤ 3 by decide)
  have hr_rose_edges := hr.mono (show 1 ≤ 3 by decide)
  exact (jb_cons (js_asg (ps_asg (j_call D_folded_edges fun _ _ _ F m kp b => pe_call F hr_folded_edges rfl m kp b .nil (passX rfl rfl rfl rfl) (ja_cons (j_ix ix_any k_ix (fun _ _ => rfl) (j_call D_rose_edges fun _ _ _ F m kp b => pe_call F hr_rose_edges rfl m kp b .nil (passX rfl rfl rfl rfl) (ja_cons (jv 1) ja_nil)) j_int) ja_nil)) (jg_tup (pg_tup rfl (jgs_cons (pgs_cons (jg_name (i := 2) sc_folded_graph.nd rfl (by first | exact Or.inl rfl | exact Or.inr rfl)) (jgs_cons (pgs_cons (jg_name (i := 3) sc_folded_graph.nd rfl (by first | exact Or.inl rfl | exact Or.inr rfl)) jgs_nil))))))))
    (jb_cons (js_ret (j_tup (ja_cons (j_call D_numbered_graph fun _ _ _ F m kp b => pe_call F hr_numbered_graph rfl m kp b .nil (passX rfl rfl rfl rfl) (ja_cons (jv 0) (ja_cons (jv 2) ja_nil))) (ja_cons (jv 3) ja_nil))))
    jb_nil))
theorem b_read_on (T : Tx P K mg tg fI)  {f : Addr} {cdv : Value} {A : Around} {outer : List Env} {s : Shared} {H : Hp} {E : XK} (hr : Room 0 (A.deeper (envOfC "read_on" (defScope s_read_on) s.heap.objs.size f cdv)))  :
    JB (cxOf (L2.CX P w) P w K mg base N_read_on "read_on" (defScope s_read_on) f cdv A outer s H E) tg E (defBody s_read_on) u_read_on := by
  exact (jb_cons (js_set (ps_set (i := 3) sc_read_on.nd rfl (by first | exact Or.inl rfl | exact Or.inr rfl) (j_ix ix_any k_ix (fun _ _ => rfl) (j_ix ix_any k_ix (fun _ _ => rfl) (jv 0) (jv 1)) (j_bin op_sub k_sub (j_bi k_abs (pe_callB call_abs (by rfl) T.b_abs boot_abs (ja_cons (jv 2) ja_nil))) j_int))))
    (jb_cons (js_ret (j_if (jt_cmpR op_gt (nomark _) k_gt (jv 2) j_int) (j_ix ix_any k_ix (fun _ _ => rfl) (jv 3) j_int) (j_ix ix_any k_ix (fun _ _ => rfl) (jv 3) j_int)))
    jb_nil))
theorem b_read_row (T : Tx P K mg tg fI) (D_read_on : DOk P w K mg base tg 1 "read_on" F_read_on) {f : Addr} {cdv : Value} {A : Around} {outer : List Env} {s : Shared} {H : Hp} {E : XK} (hr : Room 1 (A.deeper (envOfC "read_row" (defScope s_read_row) s.heap.objs.size f cdv)))  :
    JB (cxOf (L2.CX P w) P w K mg base N_read_row "read_row" (defScope s_read_row) f cdv A outer s H E) tg E (defBody s_read_row) u_read_row := by
  have hr_read_on := hr.mono (show 1 ≤ 1 by decide)
  exact (jb_cons (js_for (ps_for (passes_of rfl) rfl (ji_seq (pi_seq (jv 2))) (jg_name (i := 3) sc_read_row.nd rfl (by first | exact Or.inl rfl | exact Or.inr rfl)) (jb_cons (js_set (ps_set (i := 1) sc_read_row.nd rfl (by first | exact Or.inl rfl | exact Or.inr rfl) (j_call D_read_on fun _ _ _ F m kp b => pe_call F hr_read_on rfl m kp b .nil (passX rfl rfl rfl rfl) (ja_cons (jv 0) (ja_cons (jv 1) (ja_cons (jv 3) ja_nil))))))
    (jb_cons (js_if (jt_cmpR op_isN (nomark _) k_isN (jv 1) j_non) (jb_cons (js_ret j_non)
    jb_nil) jb_nil)
    jb_nil))))
    (jb_cons (js_ret (jv 1))
    jb_nil))
theorem b_is_member (T : Tx P K mg tg fI) (D_read_row : DOk P w K mg base tg 2 "read_row" F_read_row) {f : Addr} {cdv : Value} {A : Around} {outer : List Env} {s : Shared} {H : Hp} {E : XK} (hr : Room 2 (A.deeper (envOfC "is_member" (defScope s_is_member) s.heap.objs.size f cdv)))  :
    JB (cxOf (L2.CX P w) P w K mg base N_is_member "is_member" (defScope s_is_member) f cdv A outer s H E) tg E (defBody s_is_member) u_is_member := by
  have hr_read_row := hr.mono (show 2 ≤ 2 by decide)
  exact (jb_cons (js_ret (j_cmp (op_eqX hr.units) (nomark _) k_eq (j_call D_read_row fun _ _ _ F m kp b => pe_call F hr_read_row rfl m kp b .nil (passX rfl rfl rfl rfl) (ja_cons (jv 0) (ja_cons j_int (ja_cons (jv 1) ja_nil)))) j_int))
    jb_nil)
theorem b_edges_told (T : Tx P K mg tg fI)  {f : Addr} {cdv : Value} {A : Around} {outer : List Env} {s : Shared} {H : Hp} {E : XK} (hr : Room 0 (A.deeper (envOfC "edges_told" (defScope s_edges_told) s.heap.objs.size f cdv)))  :
    JB (cxOf (L2.CX P w) P w K mg base N_edges_told "edges_told" (defScope s_edges_told) f cdv A outer s H E) tg E (defBody s_edges_told) u_edges_told := by
  exact (jb_cons (js_set (ps_set (i := 1) sc_edges_told.nd rfl (by first | exact Or.inl rfl | exact Or.inr rfl) (j_lst (fin := BX) (pe_lst ja_nil))))
    (jb_cons (js_for (ps_for (passes_of rfl) rfl (ji_enum (pi_en rfl T.b_enumerate (ja_cons (jv 0) ja_nil))) (jg_tup (pg_tup rfl (jgs_cons (pgs_cons (jg_name (i := 2) sc_edges_told.nd rfl (by first | exact Or.inl rfl | exact Or.inr rfl)) (jgs_cons (pgs_cons (jg_name (i := 3) sc_edges_told.nd rfl (by first | exact Or.inl rfl | exact Or.inr rfl)) jgs_nil)))))) (jb_cons (js_expr (j_mt ty_list k_extend (pe_bm PySem.F.plainAttrs_list PySem.F.slot_list_extend PySem.F.type_list_extend mt_extend (jv 1) (ja_cons (j_lc (fin := FZ) (vs := [4, 5]) (c := (bVal (e2 opNotN (e2 opIx (eVar 5) (eC (.int 0))) (eC .non)))) (el := (eTup (aCons (eVar 2) (aCons (e2 (opAdd FZ) (eVar 4) (eC (.int 1))) (aCons (e2 opIx (eVar 5) (eC (.int 0))) aNil))))) (gr_tup (grs_cons (gr_name (i := 4)) (grs_cons (gr_name (i := 5)) grs_nil (gName_mono 5) gNil_mono) (gName_mono 4) (gCons_mono (gName_mono 5) gNil_mono))) (gTup_mono (gCons_mono (gName_mono 4) (gCons_mono (gName_mono 5) gNil_mono))) (pe_lc (own := [("k", 4), ("both", 5)]) rfl sc_edges_told.nd (ji_enum (pi_en rfl T.b_enumerate (ja_cons (jv 3) ja_nil))) (blkOk_by (N := N_edges_told) (sc := defScope s_edges_told) (own := [("k", 4), ("both", 5)]) (by decide +kernel)) (fun _ _ _ _ _ => (pg_tup rfl (pgs_cons (pg_name (i := 4) sc_edges_told.nd rfl (by first | exact Or.inl rfl | exact Or.inr rfl)) (pgs_cons (pg_name (i := 5) sc_edges_told.nd rfl (by first | exact Or.inl rfl | exact Or.inr rfl)) pgs_nil)))) (fun _ _ _ _ _ => (jts_one (jt_cmpR op_notN (nomark _) k_notN (j_ix ix_any k_ix (fun _ _ => rfl) (jv 5) j_int) j_non))) (fun _ _ _ _ _ => (j_tup (ja_cons (jv 2) (ja_cons (j_bin op_addD (k_add (fin := FZ)) (jv 4) j_int) (ja_cons (j_ix ix_any k_ix (fun _ _ => rfl) (jv 5) j_int) ja_nil))))))) ja_nil))))
    jb_nil)))
    (jb_cons (js_ret (jv 1))
    jb_nil)))
theorem b_group_rank (T : Tx P K mg tg fI) (D_edges_told : DOk P w K mg base tg 1 "edges_told" F_edges_told) {f : Addr} {cdv : Value} {A : Around} {outer : List Env} {s : Shared} {H : Hp} {E : XK} (hr : Room 1 (A.deeper (envOfC "group_rank" (defScope s_group_rank) s.heap.objs.size f cdv)))  :
    JB (cxOf (L2.CX P w) P w K mg base N_group_rank "group_rank" (defScope s_group_rank) f cdv A outer s H E) tg E (defBody s_group_rank) u_group_rank := by
  have hr_edges_told := hr.mono (show 1 ≤ 1 by decide)
  exact (jb_cons (js_ret (j_bin op_sub k_sub (j_bin op_addD (k_add (fin := FZ)) (j_bi k_len (pe_callB call_len (by rfl) T.b_len PySem.boot_len (ja_cons (j_call D_edges_told fun _ _ _ F m kp b => pe_call F hr_edges_told rfl m kp b .nil (passX rfl rfl rfl rfl) (ja_cons (jv 0) ja_nil)) ja_nil))) j_int) (j_bi k_len (pe_callB call_len (by rfl) T.b_len PySem.boot_len (ja_cons (jv 0) ja_nil)))))
    jb_nil)
theorem b_group_index (T : Tx P K mg tg fI)  {f : Addr} {cdv : Value} {A : Around} {outer : List Env} {s : Shared} {H : Hp} {E : XK} (hr : Room 0 (A.deeper (envOfC "group_index" (defScope s_group_index) s.heap.objs.size f cdv)))  :
    JB (cxOf (L2.CX P w) P w K mg base N_group_index "group_index" (defScope s_group_index) f cdv A outer s H E) tg E (defBody s_group_index) u_group_index := by
  exact (jb_cons (js_for (ps_for (passes_of rfl) rfl (ji_seq (pi_seq (jv 0))) (jg_name (i := 1) sc_group_index.nd rfl (by first | exact Or.inl rfl | exact Or.inr rfl)) (jb_cons (js_if (jt_cmpR (op_neX hr.units) (nomark _) k_ne (j_lc (fin := FZ) (vs := [2]) (c := (bVal (e2 opIn (eC .non) (eVar 2)))) (el := (eVar 2)) (gr_name (i := 2)) (gName_mono 2) (pe_lc (own := [("both", 2)]) rfl sc_group_index.nd (ji_seq (pi_seq (jv 1))) (blkOk_by (N := N_group_index) (sc := defScope s_group_index) (own := [("both", 2)]) (by decide +kernel)) (fun _ _ _ _ _ => (pg_name (i := 2) sc_group_index.nd rfl (by first | exact Or.inl rfl | exact Or.inr rfl))) (fun _ _ _ _ _ => (jts_one (jt_cmpR op_in_seq rfl k_in j_non (jv 2)))) (fun _ _ _ _ _ => (jv 2)))) (j_lst (fin := FZ) (pe_lst ja_nil))) (jb_cons (js_ret j_non)
    jb_nil) jb_nil)
    jb_nil)))
    (jb_cons (js_ret (j_bi k_len (pe_callB call_len (by rfl) T.b_len PySem.boot_len (ja_cons (jv 0) ja_nil))))
    jb_nil))
theorem b__law_source (T : Tx P K mg tg fI)  {f : Addr} {cdv : Value} {A : Around} {outer : List Env} {s : Shared} {H : Hp} {E : XK} (hr : Room 0 (A.deeper (envOfC "_law_source" (defScope s__law_source) s.heap.objs.size f cdv)))  :
    JB (cxOf (L2.CX P w) P w K mg base N__law_source "_law_source" (defScope s__law_source) f cdv A outer s H E) tg E (defBody s__law_source) u__law_source := by
  exact (jb_cons (js_set (ps_set (i := 1) sc__law_source.nd rfl (by first | exact Or.inl rfl | exact Or.inr rfl) j_int))
    (jb_cons (js_for (ps_for (passes_of rfl) rfl (ji_seq (pi_seq (jv 0))) (jg_name (i := 2) sc__law_source.nd rfl (by first | exact Or.inl rfl | exact Or.inr rfl)) (jb_cons (js_set (ps_set (i := 1) sc__law_source.nd rfl (by first | exact Or.inl rfl | exact Or.inr rfl) (j_bin op_modN k_mod (j_bi k_int1 (pe_callTy call_int1 (by rfl) T.b_int boot_int (ja_cons (j_bin op_addD (k_add (fin := FZ)) (j_bin op_addD (k_add (fin := FZ)) (j_bin op_mulX (k_mulX (fin := FZ)) (jv 1) j_int) (j_bin op_mulX (k_mulX (fin := FZ)) (jv 2) j_int)) j_int) ja_nil))) j_int)))
    jb_nil)))
    (jb_cons (js_ret (j_disp (ps := [((eC (.str "cells")), (eBack BX (eLc FZ (srcV (eVar 0)) (gN 2) [2] bYes (eCB (biAbs) (aCons (eVar 2) aNil))))), ((eC (.str "left")), (eC (.int 1))), ((eC (.str "mixed")), (eVar 1)), ((eC (.str "turn")), (eC (.int 0)))]) (pe_disp (pps_cons j_str (j_back (fin := BX) (pe_back (j_lc (fin := FZ) (vs := [2]) (c := bYes) (el := (eCB (biAbs) (aCons (eVar 2) aNil))) (gr_name (i := 2)) (gName_mono 2) (pe_lc (own := [("cell", 2)]) rfl sc__law_source.nd (ji_seq (pi_seq (jv 0))) (blkOk_by (N := N__law_source) (sc := defScope s__law_source) (own := [("cell", 2)]) (by decide +kernel)) (fun _ _ _ _ _ => (pg_name (i := 2) sc__law_source.nd rfl (by first | exact Or.inl rfl | exact Or.inr rfl))) (fun _ _ _ _ _ => jts_nil) (fun _ _ _ _ _ => (j_bi k_abs (pe_callB call_abs (by rfl) T.b_abs boot_abs (ja_cons (jv 2) ja_nil)))))))) (pps_cons j_str j_int (pps_cons j_str (jv 1) (pps_cons j_str j_int pps_nil)))) rfl rfl (by simp) (by decide))))
    jb_nil)))
theorem b__law_pick (T : Tx P K mg tg fI)  {f : Addr} {cdv : Value} {A : Around} {outer : List Env} {s : Shared} {H : Hp} {E : XK} (hr : Room 0 (A.deeper (envOfC "_law_pick" (defScope s__law_pick) s.heap.objs.size f cdv)))  :
    JB (cxOf (L2.CX P w) P w K mg base N__law_pick "_law_pick" (defScope s__law_pick) f cdv A outer s H E) tg E (defBody s__law_pick) u__law_pick := by
  exact (jb_cons (js_while (passes_of rfl) (PW.pt (jw_and (jt_cmpR op_gt (nomark _) k_gt (jv 1) j_int) (jw_and (jt_cmpR op_lt (nomark _) k_lt (j_dget (pe_dget (hu_of hr) (jv 0) j_str fun _ _ => rfl)) j_int) (jw_and1 (jt_cmpR op_gt (nomark _) k_gt (j_bi k_len (pe_callB call_len (by rfl) T.b_len PySem.boot_len (ja_cons (j_dget (pe_dget (hu_of hr) (jv 0) j_str fun _ _ => rfl)) ja_nil))) j_int))))) (jb_cons (js_dput (ps_dput (hu_of hr) (jv 0) j_str (j_mt0 ty_list k_pop (pe_bm0 PySem.F.plainAttrs_list PySem.F.slot_list_pop PySem.F.type_list_pop mt_pop (j_dget (pe_dget (hu_of hr) (jv 0) j_str fun _ _ => rfl)))) rfl))
    jb_nil))
    (jb_cons (js_set (ps_set (i := 2) sc__law_pick.nd rfl (by first | exact Or.inl rfl | exact Or.inr rfl) (j_dget (pe_dget (hu_of hr) (jv 0) j_str fun _ _ => rfl))))
    (jb_cons (js_if (PW.pt (jw_or (jt_cmpR op_lt (nomark _) k_lt (jv 1) j_int) (jw_or1 (jt_cmpR op_gt (nomark _) k_gt (jv 2) j_int)))) (jb_cons (js_dput (ps_dput (hu_of hr) (jv 0) j_str (j_bin op_fdivN k_div (jv 2) (j_bi k_max (pe_callB (call_max2 rfl) (by rfl) T.b_max boot_max (ja_cons j_int (ja_cons (jv 1) ja_nil))))) rfl))
    (jb_cons (js_ret (j_bin op_modN k_mod (j_bi k_int1 (pe_callTy call_int1 (by rfl) T.b_int boot_int (ja_cons (jv 2) ja_nil))) (j_bi k_max (pe_callB (call_max2 rfl) (by rfl) T.b_max boot_max (ja_cons j_int (ja_cons (jv 1) ja_nil))))))
    jb_nil)) jb_nil)
    (jb_cons (js_dput (ps_dput (hu_of hr) (jv 0) j_str (j_bin op_addD (k_add (fin := FZ)) (j_dget (pe_dget (hu_of hr) (jv 0) j_str fun _ _ => rfl)) j_int) rfl))
    (jb_cons (js_set (ps_set (i := 3) sc__law_pick.nd rfl (by first | exact Or.inl rfl | exact Or.inr rfl) (j_bin op_modN k_mod (j_bi k_int1 (pe_callTy call_int1 (by rfl) T.b_int boot_int (ja_cons (j_bin op_addD (k_add (fin := FZ)) (j_dget (pe_dget (hu_of hr) (jv 0) j_str fun _ _ => rfl)) (j_bin op_mulX (k_mulX (fin := FZ)) (j_dget (pe_dget (hu_of hr) (jv 0) j_str fun _ _ => rfl)) j_int)) ja_nil))) j_int)))
    (jb_cons (js_set (ps_set (i := 3) sc__law_pick.nd rfl (by first | exact Or.inl rfl | exact Or.inr rfl) (j_bin op_modN k_mod (j_bi k_int1 (pe_callTy call_int1 (by rfl) T.b_int boot_int (ja_cons (j_bin op_addD (k_add (fin := FZ)) (j_bin op_mulX (k_mulX (fin := FZ)) (jv 3) (jv 3)) (j_bin op_mulX (k_mulX (fin := FZ)) (j_dget (pe_dget (hu_of hr) (jv 0) j_str fun _ _ => rfl)) j_int)) ja_nil))) j_int)))
    (jb_cons (js_dput (ps_dput (hu_of hr) (jv 0) j_str (jv 3) rfl))
    (jb_cons (js_ret (j_bin op_modN k_mod (j_bi k_int1 (pe_callTy call_int1 (by rfl) T.b_int boot_int (ja_cons (j_bin op_fdivN k_div (jv 3) j_int) ja_nil))) (jv 1)))
    jb_nil))))))))
theorem b__law_of (T : Tx P K mg tg fI) (D__law_pick : DOk P w K mg base tg 1 "_law_pick" F__law_pick) {f : Addr} {cdv : Value} {A : Around} {outer : List Env} {s : Shared} {H : Hp} {E : XK} (hr : Room 1 (A.deeper (envOfC "_law_of" (defScope s__law_of) s.heap.objs.size f cdv)))  :
    JB (cxOf (L2.CX P w) P w K mg base N__law_of "_law_of" (defScope s__law_of) f cdv A outer s H E) tg E (defBody s__law_of) u__law_of := by
  have hr__law_pick := hr.mono (show 1 ≤ 1 by decide)
  exact (jb_cons (js_ret (j_ix ix_any k_ix (fun _ _ => rfl) (jv 1) (j_call D__law_pick fun _ _ _ F m kp b => pe_call F hr__law_pick rfl m kp b .nil (passX rfl rfl rfl rfl) (ja_cons (jv 0) (ja_cons (j_bi k_len (pe_callB call_len (by rfl) T.b_len PySem.boot_len (ja_cons (jv 1) ja_nil))) ja_nil)))))
    jb_nil)
theorem b__law_mixed (T : Tx P K mg tg fI) (D__law_pick : DOk P w K mg base tg 1 "_law_pick" F__law_pick) {f : Addr} {cdv : Value} {A : Around} {outer : List Env} {s : Shared} {H : Hp} {E : XK} (hr : Room 1 (A.deeper (envOfC "_law_mixed" (defScope s__law_mixed) s.heap.objs.size f cdv)))  :
    JB (cxOf (L2.CX P w) P w K mg base N__law_mixed "_law_mixed" (defScope s__law_mixed) f cdv A outer s H E) tg E (defBody s__law_mixed) u__law_mixed := by
  have hr__law_pick := hr.mono (show 1 ≤ 1 by decide)
  exact (jb_cons (js_set (ps_set (i := 2) sc__law_mixed.nd rfl (by first | exact Or.inl rfl | exact Or.inr rfl) (j_bi (k_list (fin := BX)) (pe_callTy (call_listX rfl) (by rfl) T.b_list boot_list (ja_cons (jv 1) ja_nil)))))
    (jb_cons (js_ret (j_lc (fin := FZ) (vs := [3]) (c := bYes) (el := (eMt ckL mtPopAt (eVar 2) (aCons (eCB F__law_pick (aCons (eVar 0) (aCons (eCB (biLen) (aCons (eVar 2) aNil)) aNil))) aNil))) (gr_name (i := 3)) (gName_mono 3) (pe_lc (own := [("lap", 3)]) rfl sc__law_mixed.nd (ji_range1 (pi_range1 rfl T.b_range (ja_cons (j_bi k_len (pe_callB call_len (by rfl) T.b_len PySem.boot_len (ja_cons (jv 2) ja_nil))) ja_nil))) (blkOk_by (N := N__law_mixed) (sc := defScope s__law_mixed) (own := [("lap", 3)]) (by decide +kernel)) (fun _ _ _ _ _ => (pg_name (i := 3) sc__law_mixed.nd rfl (by first | exact Or.inl rfl | exact Or.inr rfl))) (fun _ _ _ _ _ => jts_nil) (fun _ _ _ _ _ => (j_mt ty_list k_popAt (pe_bm PySem.F.plainAttrs_list PySem.F.slot_list_pop PySem.F.type_list_pop mt_popAt (jv 2) (ja_cons (j_call D__law_pick fun _ _ _ F m kp b => pe_call F hr__law_pick rfl m kp b .nil passL (ja_cons (jv 0) (ja_cons (j_bi k_len (pe_callB call_len (by rfl) T.b_len PySem.boot_len (ja_cons (jv 2) ja_nil))) ja_nil))) ja_nil)))))))
    jb_nil))
theorem b__law_net (T : Tx P K mg tg fI)  {f : Addr} {cdv : Value} {A : Around} {outer : List Env} {s : Shared} {H : Hp} {E : XK} (hr : Room 0 (A.deeper (envOfC "_law_net" (defScope s__law_net) s.heap.objs.size f cdv)))  :
    JB (cxOf (L2.CX P w) P w K mg base N__law_net "_law_net" (defScope s__law_net) f cdv A outer s H E) tg E (defBody s__law_net) u__law_net := by
  exact (jb_cons (ps_weak (ps_par (i := 1) (j := 2) rfl sc__law_net.nd rfl rfl (by decide) rfl rfl (ja_cons (j_bi (k_list (fin := FZ)) (pe_callTy (call_listX rfl) (by rfl) T.b_list boot_list (ja_cons (jv 0) ja_nil))) (ja_cons (j_bin op_sub k_sub (j_bi k_len (pe_callB call_len (by rfl) T.b_len PySem.boot_len (ja_cons (jv 0) ja_nil))) j_int) ja_nil)) rfl) tPar_of)
    (jb_cons (js_while (passes_of rfl) (jt_cmpR op_ge (nomark _) k_ge (jv 2) j_int) (jb_cons (js_if (PW.pt (jw_and (jt_cmpR op_lt (nomark _) k_lt (j_bin op_addD (k_add (fin := FZ)) (jv 2) j_int) (j_bi k_len (pe_callB call_len (by rfl) T.b_len PySem.boot_len (ja_cons (jv 1) ja_nil)))) (jw_and1 (jt_cmpR (op_eqX hr.units) (nomark _) k_eq (j_bin op_addD (k_add (fin := FZ)) (j_ix ix_any k_ix (fun _ _ => rfl) (jv 1) (jv 2)) (j_ix ix_any k_ix (fun _ _ => rfl) (jv 1) (j_bin op_addD (k_add (fin := FZ)) (jv 2) j_int))) j_int)))) (jb_cons (js_set (ps_set (i := 1) sc__law_net.nd rfl (by first | exact Or.inl rfl | exact Or.inr rfl) (j_bin op_addD (k_add (fin := FZ)) (j_sl (fin := FZ) (pe_slice sl_any (jv 1) jo_none (jo_some (jv 2)))) (j_sl (fin := FZ) (pe_slice sl_any (jv 1) (jo_some (j_bin op_addD (k_add (fin := FZ)) (jv 2) j_int)) jo_none)))))
    jb_nil) jb_nil)
    (jb_cons (js_set (ps_set (i := 2) sc__law_net.nd rfl (by first | exact Or.inl rfl | exact Or.inr rfl) (j_bin op_sub k_sub (jv 2) j_int)))
    jb_nil)))
    (jb_cons (js_ret (j_bi k_tuple (pe_callTy call_tuple_of (by rfl) T.b_tuple boot_tuple (ja_cons (jv 1) ja_nil))))
    jb_nil)))
theorem b__law_undone (T : Tx P K mg tg fI)  {f : Addr} {cdv : Value} {A : Around} {outer : List Env} {s : Shared} {H : Hp} {E : XK} (hr : Room 0 (A.deeper (envOfC "_law_undone" (defScope s__law_undone) s.heap.objs.size f cdv)))  :
    JB (cxOf (L2.CX P w) P w K mg base N__law_undone "_law_undone" (defScope s__law_undone) f cdv A outer s H E) tg E (defBody s__law_undone) u__law_undone := by
  exact (jb_cons (js_ret (j_bi k_tuple (pe_callTy call_tuple_of (by rfl) T.b_tuple boot_tuple (ja_cons (j_lc (fin := FZ) (vs := [1]) (c := bYes) (el := (e2 (opSub) (eC (.int 0)) (eVar 1))) (gr_name (i := 1)) (gName_mono 1) (pe_lc (own := [("act", 1)]) rfl sc__law_undone.nd (ji_seq (pi_seq (j_back (fin := FZ) (pe_back (jv 0))))) (blkOk_by (N := N__law_undone) (sc := defScope s__law_undone) (own := [("act", 1)]) (by decide +kernel)) (fun _ _ _ _ _ => (pg_name (i := 1) sc__law_undone.nd rfl (by first | exact Or.inl rfl | exact Or.inr rfl))) (fun _ _ _ _ _ => jts_nil) (fun _ _ _ _ _ => (j_bin op_sub k_sub j_int (jv 1))))) ja_nil))))
    jb_nil)
theorem b__law_doing (T : Tx P K mg tg fI) (D__law_net : DOk P w K mg base tg 1 "_law_net" F__law_net) (D__law_of : DOk P w K mg base tg 2 "_law_of" F__law_of) (D__law_pick : DOk P w K mg base tg 1 "_law_pick" F__law_pick) {f : Addr} {cdv : Value} {A : Around} {outer : List Env} {s : Shared} {H : Hp} {E : XK} (hr : Room 2 (A.deeper (envOfC "_law_doing" (defScope s__law_doing) s.heap.objs.size f cdv)))  :
    JB (cxOf (L2.CX P w) P w K mg base N__law_doing "_law_doing" (defScope s__law_doing) f cdv A outer s H E) tg E (defBody s__law_doing) u__law_doing := by
  have hr__law_net := hr.mono (show 1 ≤ 2 by decide)
  have hr__law_of := hr.mono (show 2 ≤ 2 by decide)
  have hr__law_pick := hr.mono (show 1 ≤ 2 by decide)
  exact (jb_cons (js_setLc (i := 3) (fin := FZ) (vs := [4]) (c := bYes) (el := (e2 (opMulX FZ) (eCB F__law_of (aCons (eVar 0) (aCons (eLst FZ (aCons (eC (.int 1)) (aCons (e1 opNeg (eC (.int 1))) aNil))) aNil))) (e2 (opAdd FZ) (eC (.int 1)) (eCB F__law_pick (aCons (eVar 0) (aCons (eVar 1) aNil)))))) (gr_name (i := 4)) (gName_mono 4) (ps_setLc (i := 3) (own := [("k", 4)]) rfl sc__law_doing.nd rfl rfl (sw_true rfl rfl rfl (by decide +kernel)) (ji_range1 (pi_range1 rfl T.b_range (ja_cons (j_call D__law_pick fun _ _ _ F m kp b => pe_call F hr__law_pick rfl m kp b .nil (passX rfl rfl rfl rfl) (ja_cons (jv 0) (ja_cons (j_bin op_addD (k_add (fin := FZ)) (jv 2) j_int) ja_nil))) ja_nil))) (blkOk_by (N := N__law_doing) (sc := defScope s__law_doing) (own := [("k", 4)]) (by decide +kernel)) (fun _ _ _ _ _ => (pg_name (i := 4) sc__law_doing.nd rfl (by first | exact Or.inl rfl | exact Or.inr rfl))) (fun _ _ _ _ _ => jts_nil) (fun _ _ _ _ _ => (j_bin op_mulX (k_mulX (fin := FZ)) (j_call D__law_of fun _ _ _ F m kp b => pe_call F hr__law_of rfl m kp b .nil passL (ja_cons (jv 0) (ja_cons (j_lst (fin := FZ) (pe_lst (ja_cons j_int (ja_cons (j_un un_neg k_neg j_int) ja_nil)))) ja_nil))) (j_bin op_addD (k_add (fin := FZ)) j_int (j_call D__law_pick fun _ _ _ F m kp b => pe_call F hr__law_pick rfl m kp b .nil passL (ja_cons (jv 0) (ja_cons (jv 1) ja_nil))))))))
    (jb_cons (js_ret (j_call D__law_net fun _ _ _ F m kp b => pe_call F hr__law_net rfl m kp b .nil (passX rfl rfl rfl rfl) (ja_cons (jv 3) ja_nil)))
    jb_nil))
theorem b__law_doings (T : Tx P K mg tg fI) (D__law_doing : DOk P w K mg base tg 3 "_law_doing" F__law_doing) (D__law_net : DOk P w K mg base tg 1 "_law_net" F__law_net) (D__law_of : DOk P w K mg base tg 2 "_law_of" F__law_of) (D__law_pick : DOk P w K mg base tg 1 "_law_pick" F__law_pick) (D__law_undone : DOk P w K mg base tg 1 "_law_undone" F__law_undone) {f : Addr} {cdv : Value} {A : Around} {outer : List Env} {s : Shared} {H : Hp} {E : XK} (hr : Room 3 (A.deeper (envOfC "_law_doings" (defScope s__law_doings) s.heap.objs.size f cdv)))  :
    JB (cxOf (L2.CX P w) P w K mg base N__law_doings "_law_doings" (defScope s__law_doings) f cdv A outer s H E) tg E (defBody s__law_doings) u__law_doings := by
  have hr__law_doing := hr.mono (show 3 ≤ 3 by decide)
  have hr__law_net := hr.mono (show 1 ≤ 3 by decide)
  have hr__law_of := hr.mono (show 2 ≤ 3 by decide)
  have hr__law_pick := hr.mono (show 1 ≤ 3 by decide)
  have hr__law_undone := hr.mono (show 1 ≤ 3 by decide)
  exact (jb_cons (js_set (ps_set (i := 2) sc__law_doings.nd rfl (by first | exact Or.inl rfl | exact Or.inr rfl) (j_lst (fin := BX) (pe_lst ja_nil))))
    (jb_cons (js_for (ps_for (passes_of rfl) rfl (ji_range1 (pi_range1 rfl T.b_range (ja_cons (j_call D__law_pick fun _ _ _ F m kp b => pe_call F hr__law_pick rfl m kp b .nil (passX rfl rfl rfl rfl) (ja_cons (jv 0) (ja_cons j_int ja_nil))) ja_nil))) (jg_name (i := 3) sc__law_doings.nd rfl (by first | exact Or.inl rfl | exact Or.inr rfl)) (jb_cons (js_set (ps_set (i := 4) sc__law_doings.nd rfl (by first | exact Or.inl rfl | exact Or.inr rfl) (j_call D__law_pick fun _ _ _ F m kp b => pe_call F hr__law_pick rfl m kp b .nil (passX rfl rfl rfl rfl) (ja_cons (jv 0) (ja_cons j_int ja_nil)))))
    (jb_cons (js_set (ps_set (i := 5) sc__law_doings.nd rfl (by first | exact Or.inl rfl | exact Or.inr rfl) (j_call D__law_doing fun _ _ _ F m kp b => pe_call F hr__law_doing rfl m kp b .nil (passX rfl rfl rfl rfl) (ja_cons (jv 0) (ja_cons (jv 1) (ja_cons j_int ja_nil))))))
    (jb_cons (js_if (PW.pt (jw_and (jt_cmpR (op_eqX hr.units) (nomark _) k_eq (jv 4) j_int) (jw_and1 (jt_cmpR (op_neX hr.units) (nomark _) k_ne (jv 2) (j_lst (fin := FZ) (pe_lst ja_nil)))))) (jb_cons (js_set (ps_set (i := 5) sc__law_doings.nd rfl (by first | exact Or.inl rfl | exact Or.inr rfl) (j_call D__law_net fun _ _ _ F m kp b => pe_call F hr__law_net rfl m kp b .nil (passX rfl rfl rfl rfl) (ja_cons (j_bin op_addD (k_add (fin := FZ)) (j_call D__law_of fun _ _ _ F m kp b => pe_call F hr__law_of rfl m kp b .nil (passX rfl rfl rfl rfl) (ja_cons (jv 0) (ja_cons (jv 2) ja_nil))) (j_call D__law_undone fun _ _ _ F m kp b => pe_call F hr__law_undone rfl m kp b .nil (passX rfl rfl rfl rfl) (ja_cons (j_call D__law_of fun _ _ _ F m kp b => pe_call F hr__law_of rfl m kp b .nil (passX rfl rfl rfl rfl) (ja_cons (jv 0) (ja_cons (jv 2) ja_nil))) ja_nil))) ja_nil))))
    jb_nil) jb_nil)
    (jb_cons (js_if (PW.pt (jw_and (jt_cmpR (op_eqX hr.units) (nomark _) k_eq (jv 4) j_int) (jw_and1 (jt_cmpR (op_neX hr.units) (nomark _) k_ne (jv 2) (j_lst (fin := FZ) (pe_lst ja_nil)))))) (jb_cons (js_set (ps_set (i := 5) sc__law_doings.nd rfl (by first | exact Or.inl rfl | exact Or.inr rfl) (j_call D__law_net fun _ _ _ F m kp b => pe_call F hr__law_net rfl m kp b .nil (passX rfl rfl rfl rfl) (ja_cons (j_bin op_addD (k_add (fin := FZ)) (j_bin op_addD (k_add (fin := FZ)) (j_sl (fin := FZ) (pe_slice sl_any (jv 5) jo_none (jo_some j_int))) (j_call D__law_of fun _ _ _ F m kp b => pe_call F hr__law_of rfl m kp b .nil (passX rfl rfl rfl rfl) (ja_cons (jv 0) (ja_cons (jv 2) ja_nil)))) (j_call D__law_undone fun _ _ _ F m kp b => pe_call F hr__law_undone rfl m kp b .nil (passX rfl rfl rfl rfl) (ja_cons (j_sl (fin := FZ) (pe_slice sl_any (jv 5) jo_none (jo_some j_int))) ja_nil))) ja_nil))))
    jb_nil) jb_nil)
    (jb_cons (js_if (jt_cmpR (op_eqX hr.units) (nomark _) k_eq (jv 4) j_int) (jb_cons (js_set (ps_set (i := 5) sc__law_doings.nd rfl (by first | exact Or.inl rfl | exact Or.inr rfl) (j_call D__law_net fun _ _ _ F m kp b => pe_call F hr__law_net rfl m kp b .nil (passX rfl rfl rfl rfl) (ja_cons (j_bin op_mulX (k_mulX (fin := FZ)) (j_sl (fin := FZ) (pe_slice sl_any (jv 5) jo_none (jo_some j_int))) j_int) ja_nil))))
    jb_nil) jb_nil)
    (jb_cons (js_expr (j_mt ty_list k_append (pe_bm PySem.F.plainAttrs_list PySem.F.slot_list_append PySem.F.type_list_append mt_append (jv 2) (ja_cons (j_sl (fin := FZ) (pe_slice sl_any (jv 5) jo_none (jo_some j_int))) ja_nil))))
    jb_nil))))))))
    (jb_cons (js_ret (jv 2))
    jb_nil)))
theorem b__law_rose (T : Tx P K mg tg fI)  {f : Addr} {cdv : Value} {A : Around} {outer : List Env} {s : Shared} {H : Hp} {E : XK} (hr : Room 0 (A.deeper (envOfC "_law_rose" (defScope s__law_rose) s.heap.objs.size f cdv)))  :
    JB (cxOf (L2.CX P w) P w K mg base N__law_rose "_law_rose" (defScope s__law_rose) f cdv A outer s H E) tg E (defBody s__law_rose) u__law_rose := by
  exact (jb_sc2 (js_asg (ps_asg (j_tup (ja_cons (j_lst (fin := BX) (pe_lst ja_nil)) (ja_cons j_int ja_nil))) (jg_tup (pg_tup rfl (jgs_cons (pgs_cons (jg_name (i := 1) sc__law_rose.nd rfl (by first | exact Or.inl rfl | exact Or.inr rfl)) (jgs_cons (pgs_cons (jg_name (i := 2) sc__law_rose.nd rfl (by first | exact Or.inl rfl | exact Or.inr rfl)) jgs_nil)))))))) (js_for (ps_for (passes_of rfl) rfl (ji_seq (pi_seq (jv 0))) (jg_name (i := 3) sc__law_rose.nd rfl (by first | exact Or.inl rfl | exact Or.inr rfl)) (jb_cons (js_set (ps_set (i := 5) sc__law_rose.nd rfl (by first | exact Or.inl rfl | exact Or.inr rfl) (j_bin op_addD (k_add (fin := FZ)) (j_bin op_addD (k_add (fin := FZ)) (j_lst (fin := FZ) (pe_lst (ja_cons j_int ja_nil))) (j_lc (fin := FZ) (vs := [4]) (c := bYes) (el := (e2 (opAdd FZ) (eVar 2) (eVar 4))) (gr_name (i := 4)) (gName_mono 4) (pe_lc (own := [("k", 4)]) rfl sc__law_rose.nd (ji_range1 (pi_range1 rfl T.b_range (ja_cons (j_bin op_sub k_sub (j_bi k_len (pe_callB call_len (by rfl) T.b_len PySem.boot_len (ja_cons (jv 3) ja_nil))) j_int) ja_nil))) (blkOk_by (N := N__law_rose) (sc := defScope s__law_rose) (own := [("k", 4)]) (by decide +kernel)) (fun _ _ _ _ _ => (pg_name (i := 4) sc__law_rose.nd rfl (by first | exact Or.inl rfl | exact Or.inr rfl))) (fun _ _ _ _ _ => jts_nil) (fun _ _ _ _ _ => (j_bin op_addD (k_add (fin := FZ)) (jv 2) (jv 4)))))) (j_lst (fin := FZ) (pe_lst (ja_cons j_int ja_nil))))))
    (jb_cons (js_set (ps_set (i := 2) sc__law_rose.nd rfl (by first | exact Or.inl rfl | exact Or.inr rfl) (j_bin op_addD (k_add (fin := FZ)) (jv 2) (j_bi k_max (pe_callB (call_max2 rfl) (by rfl) T.b_max boot_max (ja_cons j_int (ja_cons (j_bin op_sub k_sub (j_bi k_len (pe_callB call_len (by rfl) T.b_len PySem.boot_len (ja_cons (jv 3) ja_nil))) j_int) ja_nil)))))))
    (jb_cons (js_for (ps_for (passes_of rfl) rfl (ji_enum (pi_en rfl T.b_enumerate (ja_cons (jv 3) ja_nil))) (jg_tup (pg_tup rfl (jgs_cons (pgs_cons (jg_name (i := 4) sc__law_rose.nd rfl (by first | exact Or.inl rfl | exact Or.inr rfl)) (jgs_cons (pgs_cons (jg_name (i := 6) sc__law_rose.nd rfl (by first | exact Or.inl rfl | exact Or.inr rfl)) jgs_nil)))))) (jb_cons (js_expr (j_mt ty_list k_append (pe_bm PySem.F.plainAttrs_list PySem.F.slot_list_append PySem.F.type_list_append mt_append (jv 1) (ja_cons (j_if (jt_cmpR op_gt (nomark _) k_gt (jv 6) j_int) (j_tup (ja_cons (j_ix ix_any k_ix (fun _ _ => rfl) (jv 5) (jv 4)) (ja_cons (jv 6) (ja_cons (j_ix ix_any k_ix (fun _ _ => rfl) (jv 5) (j_bin op_addD (k_add (fin := FZ)) (jv 4) j_int)) ja_nil)))) (j_tup (ja_cons (j_ix ix_any k_ix (fun _ _ => rfl) (jv 5) (j_bin op_addD (k_add (fin := FZ)) (jv 4) j_int)) (ja_cons (j_bin op_sub k_sub j_int (jv 6)) (ja_cons (j_ix ix_any k_ix (fun _ _ => rfl) (jv 5) (jv 4)) ja_nil))))) ja_nil))))
    jb_nil)))
    jb_nil)))))
    (jb_cons (js_ret (j_tup (ja_cons (j_bi (k_sorted (fin := FZ)) (pe_callB (call_sortX rfl hr.units) (by rfl) T.b_sorted boot_sorted (ja_cons (j_bi (k_dictT (fin := FZ)) (pe_callTy (call_dictT rfl (hu2_of hr)) (by rfl) T.b_dict boot_dict (ja_cons (j_lc (fin := FZ) (vs := [7]) (c := bYes) (el := (eTup (aCons (eVar 7) (aCons (eC (.int 0)) aNil)))) (gr_name (i := 7)) (gName_mono 7) (pe_lc (own := [("edge", 7)]) rfl sc__law_rose.nd (ji_seq (pi_seq (jv 1))) (blkOk_by (N := N__law_rose) (sc := defScope s__law_rose) (own := [("edge", 7)]) (by decide +kernel)) (fun _ _ _ _ _ => (pg_name (i := 7) sc__law_rose.nd rfl (by first | exact Or.inl rfl | exact Or.inr rfl))) (fun _ _ _ _ _ => jts_nil) (fun _ _ _ _ _ => (j_tup (ja_cons (jv 7) (ja_cons j_int ja_nil)))))) ja_nil))) ja_nil))) (ja_cons (jv 2) ja_nil))))
    jb_nil))
theorem b__law_couples (T : Tx P K mg tg fI)  {f : Addr} {cdv : Value} {A : Around} {outer : List Env} {s : Shared} {H : Hp} {E : XK} (hr : Room 0 (A.deeper (envOfC "_law_couples" (defScope s__law_couples) s.heap.objs.size f cdv)))  :
    JB (cxOf (L2.CX P w) P w K mg base N__law_couples "_law_couples" (defScope s__law_couples) f cdv A outer s H E) tg E (defBody s__law_couples) u__law_couples := by
  exact (jb_cons (js_set (ps_set (i := 1) sc__law_couples.nd rfl (by first | exact Or.inl rfl | exact Or.inr rfl) (j_dnewT (fin := BX) pe_dnewT)))
    (jb_cons (js_for (ps_for (passes_of rfl) rfl (ji_seq (pi_seq (jv 0))) (jg_tup (pg_tup rfl (jgs_cons (pgs_cons (jg_name (i := 2) sc__law_couples.nd rfl (by first | exact Or.inl rfl | exact Or.inr rfl)) (jgs_cons (pgs_cons (jg_name (i := 3) sc__law_couples.nd rfl (by first | exact Or.inl rfl | exact Or.inr rfl)) (jgs_cons (pgs_cons (jg_name (i := 4) sc__law_couples.nd rfl (by first | exact Or.inl rfl | exact Or.inr rfl)) jgs_nil)))))))) (jb_cons (js_for (ps_for (passes_of rfl) rfl (ji_seq (pi_seq (jv 0))) (jg_tup (pg_tup rfl (jgs_cons (pgs_cons (jg_name (i := 5) sc__law_couples.nd rfl (by first | exact Or.inl rfl | exact Or.inr rfl)) (jgs_cons (pgs_cons (jg_name (i := 6) sc__law_couples.nd rfl (by first | exact Or.inl rfl | exact Or.inr rfl)) (jgs_cons (pgs_cons (jg_name (i := 7) sc__law_couples.nd rfl (by first | exact Or.inl rfl | exact Or.inr rfl)) jgs_nil)))))))) (jb_cons (js_if (PW.pt (jw_and (jt_cmpR (op_eqX hr.units) (nomark _) k_eq (jv 3) (jv 6)) (jw_and (jt_cmpR (op_eqX hr.units) (nomark _) k_eq (jv 2) (jv 5)) (jw_and1 (jt_cmpR op_lt (nomark _) k_lt (jv 4) (jv 7)))))) (jb_cons (js_dput (ps_dput (hu_of hr) (jv 1) (j_tup (ja_cons (jv 4) (ja_cons (jv 7) ja_nil))) j_int rfl))
    jb_nil) jb_nil)
    (jb_cons (js_if (PW.pt (jw_and (jt_cmpR (op_eqX hr.units) (nomark _) k_eq (jv 3) (jv 6)) (jw_and (jt_cmpR (op_eqX hr.units) (nomark _) k_eq (jv 4) (jv 7)) (jw_and1 (jt_cmpR op_lt (nomark _) k_lt (jv 2) (jv 5)))))) (jb_cons (js_dput (ps_dput (hu_of hr) (jv 1) (j_tup (ja_cons (jv 2) (ja_cons (jv 5) ja_nil))) j_int rfl))
    jb_nil) jb_nil)
    jb_nil))))
    jb_nil)))
    (jb_cons (js_ret (j_bi (k_sorted (fin := FZ)) (pe_callB (call_sortX rfl hr.units) (by rfl) T.b_sorted boot_sorted (ja_cons (jv 1) ja_nil))))
    jb_nil)))
theorem b__law_merged (T : Tx P K mg tg fI)  {f : Addr} {cdv : Value} {A : Around} {outer : List Env} {s : Shared} {H : Hp} {E : XK} (hr : Room 0 (A.deeper (envOfC "_law_merged" (defScope s__law_merged) s.heap.objs.size f cdv)))  :
    JB (cxOf (L2.CX P w) P w K mg base N__law_merged "_law_merged" (defScope s__law_merged) f cdv A outer s H E) tg E (defBody s__law_merged) u__law_merged := by
  exact (jb_cons (js_asg (ps_asg (jv 1) (jg_tup (pg_tup rfl (jgs_cons (pgs_cons (jg_name (i := 2) sc__law_merged.nd rfl (by first | exact Or.inl rfl | exact Or.inr rfl)) (jgs_cons (pgs_cons (jg_name (i := 3) sc__law_merged.nd rfl (by first | exact Or.inl rfl | exact Or.inr rfl)) jgs_nil))))))))
    (jb_cons (js_setLc (i := 4) (fin := FZ) (vs := [5, 6, 7]) (c := bYes) (el := (eTup (aCons (eIf (bVal (e2 opEq (eVar 5) (eVar 3))) (eVar 2) (eVar 5)) (aCons (eVar 6) (aCons (eIf (bVal (e2 opEq (eVar 7) (eVar 3))) (eVar 2) (eVar 7)) aNil))))) (gr_tup (grs_cons (gr_name (i := 5)) (grs_cons (gr_name (i := 6)) (grs_cons (gr_name (i := 7)) grs_nil (gName_mono 7) gNil_mono) (gName_mono 6) (gCons_mono (gName_mono 7) gNil_mono)) (gName_mono 5) (gCons_mono (gName_mono 6) (gCons_mono (gName_mono 7) gNil_mono)))) (gTup_mono (gCons_mono (gName_mono 5) (gCons_mono (gName_mono 6) (gCons_mono (gName_mono 7) gNil_mono)))) (ps_setLc (i := 4) (own := [("one", 5), ("act", 6), ("other", 7)]) rfl sc__law_merged.nd rfl rfl (sw_true rfl rfl rfl (by decide +kernel)) (ji_seq (pi_seq (jv 0))) (blkOk_by (N := N__law_merged) (sc := defScope s__law_merged) (own := [("one", 5), ("act", 6), ("other", 7)]) (by decide +kernel)) (fun _ _ _ _ _ => (pg_tup rfl (pgs_cons (pg_name (i := 5) sc__law_merged.nd rfl (by first | exact Or.inl rfl | exact Or.inr rfl)) (pgs_cons (pg_name (i := 6) sc__law_merged.nd rfl (by first | exact Or.inl rfl | exact Or.inr rfl)) (pgs_cons (pg_name (i := 7) sc__law_merged.nd rfl (by first | exact Or.inl rfl | exact Or.inr rfl)) pgs_nil))))) (fun _ _ _ _ _ => jts_nil) (fun _ _ _ _ _ => (j_tup (ja_cons (j_if (jt_cmpR (op_eqX hr.units) (nomark _) k_eq (jv 5) (jv 3)) (jv 2) (jv 5)) (ja_cons (jv 6) (ja_cons (j_if (jt_cmpR (op_eqX hr.units) (nomark _) k_eq (jv 7) (jv 3)) (jv 2) (jv 7)) ja_nil)))))))
    (jb_cons (js_ret (j_bi (k_sorted (fin := FZ)) (pe_callB (call_sortX rfl hr.units) (by rfl) T.b_sorted boot_sorted (ja_cons (j_bi (k_dictT (fin := FZ)) (pe_callTy (call_dictT rfl (hu2_of hr)) (by rfl) T.b_dict boot_dict (ja_cons (j_lc (fin := FZ) (vs := [8]) (c := bYes) (el := (eTup (aCons (eVar 8) (aCons (eC (.int 0)) aNil)))) (gr_name (i := 8)) (gName_mono 8) (pe_lc (own := [("edge", 8)]) rfl sc__law_merged.nd (ji_seq (pi_seq (jv 4))) (blkOk_by (N := N__law_merged) (sc := defScope s__law_merged) (own := [("edge", 8)]) (by decide +kernel)) (fun _ _ _ _ _ => (pg_name (i := 8) sc__law_merged.nd rfl (by first | exact Or.inl rfl | exact Or.inr rfl))) (fun _ _ _ _ _ => jts_nil) (fun _ _ _ _ _ => (j_tup (ja_cons (jv 8) (ja_cons j_int ja_nil)))))) ja_nil))) ja_nil))))
    jb_nil)))
theorem b__law_folded (T : Tx P K mg tg fI) (D__law_couples : DOk P w K mg base tg 1 "_law_couples" F__law_couples) (D__law_merged : DOk P w K mg base tg 1 "_law_merged" F__law_merged) (D__law_of : DOk P w K mg base tg 2 "_law_of" F__law_of) (D__law_pick : DOk P w K mg base tg 1 "_law_pick" F__law_pick) {f : Addr} {cdv : Value} {A : Around} {outer : List Env} {s : Shared} {H : Hp} {E : XK} (hr : Room 2 (A.deeper (envOfC "_law_folded" (defScope s__law_folded) s.heap.objs.size f cdv)))  :
    JB (cxOf (L2.CX P w) P w K mg base N__law_folded "_law_folded" (defScope s__law_folded) f cdv A outer s H E) tg E (defBody s__law_folded) u__law_folded := by
  have hr__law_couples := hr.mono (show 1 ≤ 2 by decide)
  have hr__law_merged := hr.mono (show 1 ≤ 2 by decide)
  have hr__law_of := hr.mono (show 2 ≤ 2 by decide)
  have hr__law_pick := hr.mono (show 1 ≤ 2 by decide)
  exact (jb_cons (ps_weak (ps_par (i := 3) (j := 4) rfl sc__law_folded.nd rfl rfl (by decide) rfl rfl (ja_cons (j_lst (fin := BX) (pe_lst ja_nil)) (ja_cons (j_call D__law_couples fun _ _ _ F m kp b => pe_call F hr__law_couples rfl m kp b .nil (passX rfl rfl rfl rfl) (ja_cons (jv 1) ja_nil)) ja_nil)) rfl) tPar_of)
    (jb_cons (js_while (passes_of rfl) (jt_cmpR (op_neX hr.units) (nomark _) k_ne (jv 4) (j_lst (fin := FZ) (pe_lst ja_nil))) (jb_cons (js_set (ps_set (i := 5) sc__law_folded.nd rfl (by first | exact Or.inl rfl | exact Or.inr rfl) (j_if (jt_val (jv 2)) (j_ix ix_any k_ix (fun _ _ => rfl) (jv 4) j_int) (j_call D__law_of fun _ _ _ F m kp b => pe_call F hr__law_of rfl m kp b .nil (passX rfl rfl rfl rfl) (ja_cons (jv 0) (ja_cons (jv 4) ja_nil))))))
    (jb_cons (js_set (ps_set (i := 5) sc__law_folded.nd rfl (by first | exact Or.inl rfl | exact Or.inr rfl) (j_if (PW.pt (jw_or (jt_val (jv 2)) (jw_or (jt_cmpR (op_eqX hr.units) (nomark _) k_eq (j_call D__law_pick fun _ _ _ F m kp b => pe_call F hr__law_pick rfl m kp b .nil (passX rfl rfl rfl rfl) (ja_cons (jv 0) (ja_cons j_int ja_nil))) j_int) (jw_or1 (jt_cmpR op_in_seq rfl k_in j_int (jv 5)))))) (jv 5) (j_back (fin := FZ) (pe_back (jv 5))))))
    (jb_cons (js_expr (j_mt ty_list k_append (pe_bm PySem.F.plainAttrs_list PySem.F.slot_list_append PySem.F.type_list_append mt_append (jv 3) (ja_cons (jv 5) ja_nil))))
    (jb_cons (js_set (ps_set (i := 1) sc__law_folded.nd rfl (by first | exact Or.inl rfl | exact Or.inr rfl) (j_call D__law_merged fun _ _ _ F m kp b => pe_call F hr__law_merged rfl m kp b .nil (passX rfl rfl rfl rfl) (ja_cons (jv 1) (ja_cons (jv 5) ja_nil)))))
    (jb_cons (js_set (ps_set (i := 4) sc__law_folded.nd rfl (by first | exact Or.inl rfl | exact Or.inr rfl) (j_call D__law_couples fun _ _ _ F m kp b => pe_call F hr__law_couples rfl m kp b .nil (passX rfl rfl rfl rfl) (ja_cons (jv 1) ja_nil))))
    jb_nil))))))
    (jb_cons (js_ret (j_tup (ja_cons (jv 1) (ja_cons (j_bi k_tuple (pe_callTy call_tuple_of (by rfl) T.b_tuple boot_tuple (ja_cons (jv 3) ja_nil))) ja_nil))))
    jb_nil)))
theorem b__law_signs (T : Tx P K mg tg fI)  {f : Addr} {cdv : Value} {A : Around} {outer : List Env} {s : Shared} {H : Hp} {E : XK} (hr : Room 0 (A.deeper (envOfC "_law_signs" (defScope s__law_signs) s.heap.objs.size f cdv)))  :
    JB (cxOf (L2.CX P w) P w K mg base N__law_signs "_law_signs" (defScope s__law_signs) f cdv A outer s H E) tg E (defBody s__law_signs) u__law_signs := by
  exact (jb_cons (js_set (ps_set (i := 1) sc__law_signs.nd rfl (by first | exact Or.inl rfl | exact Or.inr rfl) (j_lst (fin := FZ) (pe_lst ja_nil))))
    (jb_cons (js_for (ps_for (passes_of rfl) rfl (ji_range2 (pi_range2 rfl T.b_range (ja_cons j_int (ja_cons (j_bin op_addD (k_add (fin := FZ)) (jv 0) j_int) ja_nil)))) (jg_name (i := 2) sc__law_signs.nd rfl (by first | exact Or.inl rfl | exact Or.inr rfl)) (jb_cons (js_set (ps_set (i := 1) sc__law_signs.nd rfl (by first | exact Or.inl rfl | exact Or.inr rfl) (j_bin op_addD (k_add (fin := FZ)) (jv 1) (j_lst (fin := FZ) (pe_lst (ja_cons (jv 2) (ja_cons (j_bin op_sub k_sub j_int (jv 2)) ja_nil)))))))
    jb_nil)))
    (jb_cons (js_ret (jv 1))
    jb_nil)))
theorem b__law_on (T : Tx P K mg tg fI)  {f : Addr} {cdv : Value} {A : Around} {outer : List Env} {s : Shared} {H : Hp} {E : XK} (hr : Room 0 (A.deeper (envOfC "_law_on" (defScope s__law_on) s.heap.objs.size f cdv)))  :
    JB (cxOf (L2.CX P w) P w K mg base N__law_on "_law_on" (defScope s__law_on) f cdv A outer s H E) tg E (defBody s__law_on) u__law_on := by
  exact (jb_cons (js_if (jt_cmpR op_gt (nomark _) k_gt (jv 2) j_int) (jb_cons (js_setLc (i := 3) (fin := FZ) (vs := [4, 5, 6]) (c := (bAnd (bVal (e2 opEq (eVar 4) (eVar 1))) (bVal (e2 opEq (eVar 5) (eVar 2))))) (el := (eVar 6)) (gr_tup (grs_cons (gr_name (i := 4)) (grs_cons (gr_name (i := 5)) (grs_cons (gr_name (i := 6)) grs_nil (gName_mono 6) gNil_mono) (gName_mono 5) (gCons_mono (gName_mono 6) gNil_mono)) (gName_mono 4) (gCons_mono (gName_mono 5) (gCons_mono (gName_mono 6) gNil_mono)))) (gTup_mono (gCons_mono (gName_mono 4) (gCons_mono (gName_mono 5) (gCons_mono (gName_mono 6) gNil_mono)))) (ps_setLc (i := 3) (own := [("here", 4), ("act", 5), ("late", 6)]) rfl sc__law_on.nd rfl rfl (sw_true rfl rfl rfl (by decide +kernel)) (ji_seq (pi_seq (jv 0))) (blkOk_by (N := N__law_on) (sc := defScope s__law_on) (own := [("here", 4), ("act", 5), ("late", 6)]) (by decide +kernel)) (fun _ _ _ _ _ => (pg_tup rfl (pgs_cons (pg_name (i := 4) sc__law_on.nd rfl (by first | exact Or.inl rfl | exact Or.inr rfl)) (pgs_cons (pg_name (i := 5) sc__law_on.nd rfl (by first | exact Or.inl rfl | exact Or.inr rfl)) (pgs_cons (pg_name (i := 6) sc__law_on.nd rfl (by first | exact Or.inl rfl | exact Or.inr rfl)) pgs_nil))))) (fun _ _ _ _ _ => (jts_one (PW.pt (jw_and (jt_cmpR (op_eqX hr.units) (nomark _) k_eq (jv 4) (jv 1)) (jw_and1 (jt_cmpR (op_eqX hr.units) (nomark _) k_eq (jv 5) (jv 2))))))) (fun _ _ _ _ _ => (jv 6))))
    jb_nil) (jb_cons (js_setLc (i := 3) (fin := FZ) (vs := [4, 5, 6]) (c := (bAnd (bVal (e2 opEq (eVar 6) (eVar 1))) (bVal (e2 opEq (eVar 5) (e2 (opSub) (eC (.int 0)) (eVar 2)))))) (el := (eVar 4)) (gr_tup (grs_cons (gr_name (i := 4)) (grs_cons (gr_name (i := 5)) (grs_cons (gr_name (i := 6)) grs_nil (gName_mono 6) gNil_mono) (gName_mono 5) (gCons_mono (gName_mono 6) gNil_mono)) (gName_mono 4) (gCons_mono (gName_mono 5) (gCons_mono (gName_mono 6) gNil_mono)))) (gTup_mono (gCons_mono (gName_mono 4) (gCons_mono (gName_mono 5) (gCons_mono (gName_mono 6) gNil_mono)))) (ps_setLc (i := 3) (own := [("here", 4), ("act", 5), ("late", 6)]) rfl sc__law_on.nd rfl rfl (sw_true rfl rfl rfl (by decide +kernel)) (ji_seq (pi_seq (jv 0))) (blkOk_by (N := N__law_on) (sc := defScope s__law_on) (own := [("here", 4), ("act", 5), ("late", 6)]) (by decide +kernel)) (fun _ _ _ _ _ => (pg_tup rfl (pgs_cons (pg_name (i := 4) sc__law_on.nd rfl (by first | exact Or.inl rfl | exact Or.inr rfl)) (pgs_cons (pg_name (i := 5) sc__law_on.nd rfl (by first | exact Or.inl rfl | exact Or.inr rfl)) (pgs_cons (pg_name (i := 6) sc__law_on.nd rfl (by first | exact Or.inl rfl | exact Or.inr rfl)) pgs_nil))))) (fun _ _ _ _ _ => (jts_one (PW.pt (jw_and (jt_cmpR (op_eqX hr.units) (nomark _) k_eq (jv 6) (jv 1)) (jw_and1 (jt_cmpR (op_eqX hr.units) (nomark _) k_eq (jv 5) (j_bin op_sub k_sub j_int (jv 2)))))))) (fun _ _ _ _ _ => (jv 4))))
    jb_nil))
    (jb_cons (js_ret (j_if (jt_cmpR (op_neX hr.units) (nomark _) k_ne (jv 3) (j_lst (fin := FZ) (pe_lst ja_nil))) (j_ix ix_any k_ix (fun _ _ => rfl) (jv 3) j_int) j_non))
    jb_nil))
theorem b__law_graph (T : Tx P K mg tg fI) (D__law_on : DOk P w K mg base tg 1 "_law_on" F__law_on) (D__law_signs : DOk P w K mg base tg 1 "_law_signs" F__law_signs) {f : Addr} {cdv : Value} {A : Around} {outer : List Env} {s : Shared} {H : Hp} {E : XK} (hr : Room 1 (A.deeper (envOfC "_law_graph" (defScope s__law_graph) s.heap.objs.size f cdv)))  :
    JB (cxOf (L2.CX P w) P w K mg base N__law_graph "_law_graph" (defScope s__law_graph) f cdv A outer s H E) tg E (defBody s__law_graph) u__law_graph := by
  have hr__law_on := hr.mono (show 1 ≤ 1 by decide)
  have hr__law_signs := hr.mono (show 1 ≤ 1 by decide)
  exact (jb_cons (js_asg (ps_asg (j_tup (ja_cons (j_lst (fin := FZ) (pe_lst (ja_cons j_int ja_nil))) (ja_cons j_int ja_nil))) (jg_tup (pg_tup rfl (jgs_cons (pgs_cons (jg_name (i := 2) sc__law_graph.nd rfl (by first | exact Or.inl rfl | exact Or.inr rfl)) (jgs_cons (pgs_cons (jg_name (i := 3) sc__law_graph.nd rfl (by first | exact Or.inl rfl | exact Or.inr rfl)) jgs_nil))))))))
    (jb_cons (js_while (passes_of rfl) (jt_cmpR op_lt (nomark _) k_lt (jv 3) (j_bi k_len (pe_callB call_len (by rfl) T.b_len PySem.boot_len (ja_cons (jv 2) ja_nil)))) (jb_cons (js_for (ps_for (passes_of rfl) rfl (ji_seq (pi_seq (j_call D__law_signs fun _ _ _ F m kp b => pe_call F hr__law_signs rfl m kp b .nil (passX rfl rfl rfl rfl) (ja_cons (jv 0) ja_nil)))) (jg_name (i := 4) sc__law_graph.nd rfl (by first | exact Or.inl rfl | exact Or.inr rfl)) (jb_cons (js_set (ps_set (i := 5) sc__law_graph.nd rfl (by first | exact Or.inl rfl | exact Or.inr rfl) (j_call D__law_on fun _ _ _ F m kp b => pe_call F hr__law_on rfl m kp b .nil (passX rfl rfl rfl rfl) (ja_cons (jv 1) (ja_cons (j_ix ix_any k_ix (fun _ _ => rfl) (jv 2) (jv 3)) (ja_cons (jv 4) ja_nil))))))
    (jb_cons (js_set (ps_set (i := 2) sc__law_graph.nd rfl (by first | exact Or.inl rfl | exact Or.inr rfl) (j_bin op_addD (k_add (fin := FZ)) (jv 2) (j_bin op_mulX (k_mulX (fin := FZ)) (j_lst (fin := FZ) (pe_lst (ja_cons (jv 5) ja_nil))) (j_bi k_int1 (pe_callTy call_int1 (by rfl) T.b_int boot_int (ja_cons (j_and (j_cmp op_notN (nomark _) k_notN (jv 5) j_non) (j_one (j_cmp op_notIn_seq rfl k_notIn (jv 5) (jv 2)))) ja_nil)))))))
    jb_nil))))
    (jb_cons (js_set (ps_set (i := 3) sc__law_graph.nd rfl (by first | exact Or.inl rfl | exact Or.inr rfl) (j_bin op_addD (k_add (fin := FZ)) (jv 3) j_int)))
    jb_nil)))
    (jb_cons (js_set (ps_set (i := 6) sc__law_graph.nd rfl (by first | exact Or.inl rfl | exact Or.inr rfl) (j_lst (fin := BX) (pe_lst ja_nil))))
    (jb_cons (js_for (ps_for (passes_of rfl) rfl (ji_seq (pi_seq (jv 2))) (jg_name (i := 7) sc__law_graph.nd rfl (by first | exact Or.inl rfl | exact Or.inr rfl)) (jb_cons (js_set (ps_set (i := 8) sc__law_graph.nd rfl (by first | exact Or.inl rfl | exact Or.inr rfl) (j_lst (fin := BX) (pe_lst ja_nil))))
    (jb_cons (js_for (ps_for (passes_of rfl) rfl (ji_range2 (pi_range2 rfl T.b_range (ja_cons j_int (ja_cons (j_bin op_addD (k_add (fin := FZ)) (jv 0) j_int) ja_nil)))) (jg_name (i := 9) sc__law_graph.nd rfl (by first | exact Or.inl rfl | exact Or.inr rfl)) (jb_cons (js_set (ps_set (i := 10) sc__law_graph.nd rfl (by first | exact Or.inl rfl | exact Or.inr rfl) (j_lst (fin := FZ) (pe_lst (ja_cons (j_call D__law_on fun _ _ _ F m kp b => pe_call F hr__law_on rfl m kp b .nil (passX rfl rfl rfl rfl) (ja_cons (jv 1) (ja_cons (jv 7) (ja_cons (jv 9) ja_nil)))) (ja_cons (j_call D__law_on fun _ _ _ F m kp b => pe_call F hr__law_on rfl m kp b .nil (passX rfl rfl rfl rfl) (ja_cons (jv 1) (ja_cons (jv 7) (ja_cons (j_bin op_sub k_sub j_int (jv 9)) ja_nil)))) ja_nil))))))
    (jb_cons (js_expr (j_mt ty_list k_append (pe_bm PySem.F.plainAttrs_list PySem.F.slot_list_append PySem.F.type_list_append mt_append (jv 8) (ja_cons (j_bi k_tuple (pe_callTy call_tuple_of (by rfl) T.b_tuple boot_tuple (ja_cons (j_lc (fin := FZ) (vs := [11]) (c := bYes) (el := (eIf (bVal (e2 opNotN (eVar 11) (eC .non))) (eMt ckL mtIndex (eVar 2) (aCons (eVar 11) aNil)) (eC .non))) (gr_name (i := 11)) (gName_mono 11) (pe_lc (own := [("end", 11)]) rfl sc__law_graph.nd (ji_seq (pi_seq (jv 10))) (blkOk_by (N := N__law_graph) (sc := defScope s__law_graph) (own := [("end", 11)]) (by decide +kernel)) (fun _ _ _ _ _ => (pg_name (i := 11) sc__law_graph.nd rfl (by first | exact Or.inl rfl | exact Or.inr rfl))) (fun _ _ _ _ _ => jts_nil) (fun _ _ _ _ _ => (j_if (jt_cmpR op_notN (nomark _) k_notN (jv 11) j_non) (j_mt ty_list k_index (pe_bm PySem.F.plainAttrs_list PySem.F.slot_list_index PySem.F.type_list_index mt_index (jv 2) (ja_cons (jv 11) ja_nil))) j_non)))) ja_nil))) ja_nil))))
    jb_nil))))
    (jb_cons (js_expr (j_mt ty_list k_append (pe_bm PySem.F.plainAttrs_list PySem.F.slot_list_append PySem.F.type_list_append mt_append (jv 6) (ja_cons (j_bi k_tuple (pe_callTy call_tuple_of (by rfl) T.b_tuple boot_tuple (ja_cons (jv 8) ja_nil))) ja_nil))))
    jb_nil)))))
    (jb_cons (js_ret (j_bi k_tuple (pe_callTy call_tuple_of (by rfl) T.b_tuple boot_tuple (ja_cons (jv 6) ja_nil))))
    jb_nil)))))
theorem b__law_read (T : Tx P K mg tg fI)  {f : Addr} {cdv : Value} {A : Around} {outer : List Env} {s : Shared} {H : Hp} {E : XK} (hr : Room 0 (A.deeper (envOfC "_law_read" (defScope s__law_read) s.heap.objs.size f cdv)))  :
    JB (cxOf (L2.CX P w) P w K mg base N__law_read "_law_read" (defScope s__law_read) f cdv A outer s H E) tg E (defBody s__law_read) u__law_read := by
  exact (jb_cons (js_for (ps_for (passes_of rfl) rfl (ji_seq (pi_seq (jv 2))) (jg_name (i := 3) sc__law_read.nd rfl (by first | exact Or.inl rfl | exact Or.inr rfl)) (jb_cons (js_if (jt_cmpR op_notN (nomark _) k_notN (jv 1) j_non) (jb_cons (js_set (ps_set (i := 1) sc__law_read.nd rfl (by first | exact Or.inl rfl | exact Or.inr rfl) (j_ix ix_any k_ix (fun _ _ => rfl) (j_ix ix_any k_ix (fun _ _ => rfl) (j_ix ix_any k_ix (fun _ _ => rfl) (jv 0) (jv 1)) (j_bin op_sub k_sub (j_bi k_abs (pe_callB call_abs (by rfl) T.b_abs boot_abs (ja_cons (jv 3) ja_nil))) j_int)) (j_bi k_int1 (pe_callTy call_int1 (by rfl) T.b_int boot_int (ja_cons (j_cmp op_lt (nomark _) k_lt (jv 3) j_int) ja_nil))))))
    jb_nil) jb_nil)
    jb_nil)))
    (jb_cons (js_ret (jv 1))
    jb_nil))
theorem b__law_others (T : Tx P K mg tg fI) (D__law_mixed : DOk P w K mg base tg 2 "_law_mixed" F__law_mixed) (D__law_net : DOk P w K mg base tg 1 "_law_net" F__law_net) (D__law_of : DOk P w K mg base tg 2 "_law_of" F__law_of) (D__law_undone : DOk P w K mg base tg 1 "_law_undone" F__law_undone) {f : Addr} {cdv : Value} {A : Around} {outer : List Env} {s : Shared} {H : Hp} {E : XK} (hr : Room 2 (A.deeper (envOfC "_law_others" (defScope s__law_others) s.heap.objs.size f cdv)))  :
    JB (cxOf (L2.CX P w) P w K mg base N__law_others "_law_others" (defScope s__law_others) f cdv A outer s H E) tg E (defBody s__law_others) u__law_others := by
  have hr__law_mixed := hr.mono (show 2 ≤ 2 by decide)
  have hr__law_net := hr.mono (show 1 ≤ 2 by decide)
  have hr__law_of := hr.mono (show 2 ≤ 2 by decide)
  have hr__law_undone := hr.mono (show 1 ≤ 2 by decide)
  exact (jb_cons (js_setLc (i := 2) (fin := BX) (vs := [3]) (c := bYes) (el := (eCB F__law_of (aCons (eVar 0) (aCons (eLst FZ (aCons (eVar 3) (aCons (eCB F__law_undone (aCons (eVar 3) aNil)) aNil))) aNil)))) (gr_name (i := 3)) (gName_mono 3) (ps_setLc (i := 2) (own := [("doing", 3)]) rfl sc__law_others.nd rfl rfl (sw_true rfl rfl rfl (by decide +kernel)) (ji_seq (pi_seq (j_call D__law_mixed fun _ _ _ F m kp b => pe_call F hr__law_mixed rfl m kp b .nil (passX rfl rfl rfl rfl) (ja_cons (jv 0) (ja_cons (jv 1) ja_nil))))) (blkOk_by (N := N__law_others) (sc := defScope s__law_others) (own := [("doing", 3)]) (by decide +kernel)) (fun _ _ _ _ _ => (pg_name (i := 3) sc__law_others.nd rfl (by first | exact Or.inl rfl | exact Or.inr rfl))) (fun _ _ _ _ _ => jts_nil) (fun _ _ _ _ _ => (j_call D__law_of fun _ _ _ F m kp b => pe_call F hr__law_of rfl m kp b .nil passL (ja_cons (jv 0) (ja_cons (j_lst (fin := FZ) (pe_lst (ja_cons (jv 3) (ja_cons (j_call D__law_undone fun _ _ _ F m kp b => pe_call F hr__law_undone rfl m kp b .nil passL (ja_cons (jv 3) ja_nil)) ja_nil)))) ja_nil))))))
    (jb_cons (js_if (jt_cmpR (op_neX hr.units) (nomark _) k_ne (jv 2) (j_lst (fin := FZ) (pe_lst ja_nil))) (jb_cons (js_expr (j_mt ty_list k_append (pe_bm PySem.F.plainAttrs_list PySem.F.slot_list_append PySem.F.type_list_append mt_append (jv 2) (ja_cons (j_call D__law_net fun _ _ _ F m kp b => pe_call F hr__law_net rfl m kp b .nil (passX rfl rfl rfl rfl) (ja_cons (j_bin op_addD (k_add (fin := FZ)) (j_call D__law_of fun _ _ _ F m kp b => pe_call F hr__law_of rfl m kp b .nil (passX rfl rfl rfl rfl) (ja_cons (jv 0) (ja_cons (jv 2) ja_nil))) (j_call D__law_of fun _ _ _ F m kp b => pe_call F hr__law_of rfl m kp b .nil (passX rfl rfl rfl rfl) (ja_cons (jv 0) (ja_cons (jv 2) ja_nil)))) ja_nil)) ja_nil))))
    (jb_cons (js_expr (j_mt ty_list k_append (pe_bm PySem.F.plainAttrs_list PySem.F.slot_list_append PySem.F.type_list_append mt_append (jv 2) (ja_cons (j_call D__law_net fun _ _ _ F m kp b => pe_call F hr__law_net rfl m kp b .nil (passX rfl rfl rfl rfl) (ja_cons (j_bin op_addD (k_add (fin := FZ)) (j_bin op_addD (k_add (fin := FZ)) (j_ix ix_any k_ix (fun _ _ => rfl) (jv 2) j_int) (j_call D__law_undone fun _ _ _ F m kp b => pe_call F hr__law_undone rfl m kp b .nil (passX rfl rfl rfl rfl) (ja_cons (j_ix ix_any k_ix (fun _ _ => rfl) (jv 2) (j_un un_neg k_neg j_int)) ja_nil))) (j_ix ix_any k_ix (fun _ _ => rfl) (jv 2) j_int)) ja_nil)) ja_nil))))
    jb_nil)) jb_nil)
    (jb_cons (js_ret (j_call D__law_mixed fun _ _ _ F m kp b => pe_call F hr__law_mixed rfl m kp b .nil (passX rfl rfl rfl rfl) (ja_cons (jv 0) (ja_cons (j_bin op_addD (k_add (fin := FZ)) (jv 2) (j_lst (fin := FZ) (pe_lst (ja_cons (j_tup ja_nil) ja_nil)))) ja_nil))))
    jb_nil)))
theorem b_law (T : Tx P K mg tg fI) (D__law_doing : DOk P w K mg base tg 3 "_law_doing" F__law_doing) (D__law_doings : DOk P w K mg base tg 4 "_law_doings" F__law_doings) (D__law_folded : DOk P w K mg base tg 3 "_law_folded" F__law_folded) (D__law_graph : DOk P w K mg base tg 2 "_law_graph" F__law_graph) (D__law_net : DOk P w K mg base tg 1 "_law_net" F__law_net) (D__law_of : DOk P w K mg base tg 2 "_law_of" F__law_of) (D__law_others : DOk P w K mg base tg 3 "_law_others" F__law_others) (D__law_pick : DOk P w K mg base tg 1 "_law_pick" F__law_pick) (D__law_read : DOk P w K mg base tg 1 "_law_read" F__law_read) (D__law_rose : DOk P w K mg base tg 1 "_law_rose" F__law_rose) (D__law_source : DOk P w K mg base tg 1 "_law_source" F__law_source) (D__law_undone : DOk P w K mg base tg 1 "_law_undone" F__law_undone) (D_folded_graph : DOk P w K mg base tg 4 "folded_graph" F_folded_graph) (D_group_index : DOk P w K mg base tg 1 "group_index" F_group_index) (D_group_rank : DOk P w K mg base tg 2 "group_rank" F_group_rank) (D_is_member : DOk P w K mg base tg 3 "is_member" F_is_member) (D_read_row : DOk P w K mg base tg 2 "read_row" F_read_row) {f : Addr} {cdv : Value} {A : Around} {outer : List Env} {s : Shared} {H : Hp} {E : XK} (hr : Room 6 (A.deeper (envOfC "law" (defScope s_law) s.heap.objs.size f cdv))) (hG : (A.deeper (envOfC "law" (defScope s_law) s.heap.objs.size f cdv)).guards = some []) :
    JB (cxOf (L2.CX P w) P w K mg base N_law "law" (defScope s_law) f cdv A outer s H E) tg E ((defBody s_law).take 17) u_law := by
  have hr__law_doing := hr.mono (show 3 ≤ 6 by decide)
  have hr__law_doings := hr.mono (show 4 ≤ 6 by decide)
  have hr__law_folded := hr.mono (show 3 ≤ 6 by decide)
  have hr__law_graph := hr.mono (show 2 ≤ 6 by decide)
  have hr__law_net := hr.mono (show 1 ≤ 6 by decide)
  have hr__law_of := hr.mono (show 2 ≤ 6 by decide)
  have hr__law_others := hr.mono (show 3 ≤ 6 by decide)
  have hr__law_pick := hr.mono (show 1 ≤ 6 by decide)
  have hr__law_read := hr.mono (show 1 ≤ 6 by decide)
  have hr__law_rose := hr.mono (show 1 ≤ 6 by decide)
  have hr__law_source := hr.mono (show 1 ≤ 6 by decide)
  have hr__law_undone := hr.mono (show 1 ≤ 6 by decide)
  have hr_folded_graph := hr.mono (show 4 ≤ 6 by decide)
  have hr_group_index := hr.mono (show 1 ≤ 6 by decide)
  have hr_group_rank := hr.mono (show 2 ≤ 6 by decide)
  have hr_is_member := hr.mono (show 3 ≤ 6 by decide)
  have hr_read_row := hr.mono (show 2 ≤ 6 by decide)
  exact (jb_cons (js_set (ps_set (i := 1) sc_law.nd rfl (by first | exact Or.inl rfl | exact Or.inr rfl) (j_call D__law_source fun _ _ _ F m kp b => pe_call F hr__law_source rfl m kp b .nil (passX rfl rfl rfl rfl) (ja_cons (jv 0) ja_nil))))
    (jb_cons (js_set (ps_set (i := 2) sc_law.nd rfl (by first | exact Or.inl rfl | exact Or.inr rfl) (j_bin op_addD (k_add (fin := FZ)) j_int (j_call D__law_pick fun _ _ _ F m kp b => pe_call F hr__law_pick rfl m kp b .nil (passX rfl rfl rfl rfl) (ja_cons (jv 1) (ja_cons j_int ja_nil))))))
    (jb_cons (js_set (ps_set (i := 3) sc_law.nd rfl (by first | exact Or.inl rfl | exact Or.inr rfl) (j_call D__law_doings fun _ _ _ F m kp b => pe_call F hr__law_doings rfl m kp b .nil (passX rfl rfl rfl rfl) (ja_cons (jv 1) (ja_cons (jv 2) ja_nil)))))
    (jb_cons (js_asg (ps_asg (j_call D__law_rose fun _ _ _ F m kp b => pe_call F hr__law_rose rfl m kp b .nil (passX rfl rfl rfl rfl) (ja_cons (jv 3) ja_nil)) (jg_tup (pg_tup rfl (jgs_cons (pgs_cons (jg_name (i := 4) sc_law.nd rfl (by first | exact Or.inl rfl | exact Or.inr rfl)) (jgs_cons (pgs_cons (jg_name (i := 5) sc_law.nd rfl (by first | exact Or.inl rfl | exact Or.inr rfl)) jgs_nil))))))))
    (jb_cons (js_asg (ps_asg (j_call D__law_folded fun _ _ _ F m kp b => pe_call F hr__law_folded rfl m kp b .nil (passX rfl rfl rfl rfl) (ja_cons (jv 1) (ja_cons (jv 4) (ja_cons j_bl ja_nil)))) (jg_tup (pg_tup rfl (jgs_cons (pgs_cons (jg_name (i := 6) sc_law.nd rfl (by first | exact Or.inl rfl | exact Or.inr rfl)) (jgs_cons (pgs_cons (jg_name (i := 7) sc_law.nd rfl (by first | exact Or.inl rfl | exact Or.inr rfl)) jgs_nil))))))))
    (jb_cons (js_set (ps_set (i := 8) sc_law.nd rfl (by first | exact Or.inl rfl | exact Or.inr rfl) (j_call D__law_graph fun _ _ _ F m kp b => pe_call F hr__law_graph rfl m kp b .nil (passX rfl rfl rfl rfl) (ja_cons (jv 2) (ja_cons (jv 6) ja_nil)))))
    (jb_cons (js_if (jt_cmpR (op_neX hr.units) (nomark _) k_ne (j_bi k_repr (pe_callB (call_reprS hG hr.units) (by rfl) T.b_repr boot_repr (ja_cons (j_call D_folded_graph fun _ _ _ F m kp b => pe_call F hr_folded_graph rfl m kp b .nil (passX rfl rfl rfl rfl) (ja_cons (jv 2) (ja_cons (j_bi k_tuple (pe_callTy call_tuple_of (by rfl) T.b_tuple boot_tuple (ja_cons (jv 3) ja_nil))) ja_nil))) ja_nil))) (j_bi k_repr (pe_callB (call_reprS hG hr.units) (by rfl) T.b_repr boot_repr (ja_cons (j_tup (ja_cons (jv 8) (ja_cons (jv 7) ja_nil))) ja_nil)))) (jb_cons (js_ret j_bl)
    jb_nil) jb_nil)
    (jb_cons (js_if (jt_cmpR (op_neX hr.units) (nomark _) k_ne (j_bi k_repr (pe_callB (call_reprS hG hr.units) (by rfl) T.b_repr boot_repr (ja_cons (j_call D__law_graph fun _ _ _ F m kp b => pe_call F hr__law_graph rfl m kp b .nil (passX rfl rfl rfl rfl) (ja_cons (jv 2) (ja_cons (j_ix ix_any k_ix (fun _ _ => rfl) (j_call D__law_folded fun _ _ _ F m kp b => pe_call F hr__law_folded rfl m kp b .nil (passX rfl rfl rfl rfl) (ja_cons (jv 1) (ja_cons (jv 4) (ja_cons j_bl ja_nil)))) j_int) ja_nil))) ja_nil))) (j_bi k_repr (pe_callB (call_reprS hG hr.units) (by rfl) T.b_repr boot_repr (ja_cons (jv 8) ja_nil)))) (jb_cons (js_ret j_bl)
    jb_nil) jb_nil)
    (jb_cons (js_for (ps_for (passes_of rfl) rfl (ji_range1 (pi_range1 rfl T.b_range (ja_cons j_int ja_nil))) (jg_name (i := 9) sc_law.nd rfl (by first | exact Or.inl rfl | exact Or.inr rfl)) (jb_cons (js_set (ps_set (i := 10) sc_law.nd rfl (by first | exact Or.inl rfl | exact Or.inr rfl) (j_bi k_tuple (pe_callTy call_tuple_of (by rfl) T.b_tuple boot_tuple (ja_cons (j_call D__law_others fun _ _ _ F m kp b => pe_call F hr__law_others rfl m kp b .nil (passX rfl rfl rfl rfl) (ja_cons (jv 1) (ja_cons (jv 3) ja_nil))) ja_nil)))))
    (jb_cons (js_if (jt_cmpR (op_neX hr.units) (nomark _) k_ne (j_bi k_repr (pe_callB (call_reprS hG hr.units) (by rfl) T.b_repr boot_repr (ja_cons (j_ix ix_any k_ix (fun _ _ => rfl) (j_call D_folded_graph fun _ _ _ F m kp b => pe_call F hr_folded_graph rfl m kp b .nil (passX rfl rfl rfl rfl) (ja_cons (jv 2) (ja_cons (jv 10) ja_nil))) j_int) ja_nil))) (j_bi k_repr (pe_callB (call_reprS hG hr.units) (by rfl) T.b_repr boot_repr (ja_cons (jv 8) ja_nil)))) (jb_cons (js_ret j_bl)
    jb_nil) jb_nil)
    jb_nil))))
    (jb_cons (js_set (ps_set (i := 11) sc_law.nd rfl (by first | exact Or.inl rfl | exact Or.inr rfl) (j_cmp (op_eqX hr.units) (nomark _) k_eq (j_bi k_len (pe_callB call_len (by rfl) T.b_len PySem.boot_len (ja_cons (jv 6) ja_nil))) (j_bin op_mulX (k_mulX (fin := FZ)) (jv 2) (j_bi k_len (pe_callB call_len (by rfl) T.b_len PySem.boot_len (ja_cons (jv 8) ja_nil)))))))
    (jb_cons (ps_weak (ps_par (i := 12) (j := 13) rfl sc_law.nd rfl rfl (by decide) rfl rfl (ja_cons (j_lst (fin := BX) (pe_lst (ja_cons (j_call D_group_rank fun _ _ _ F m kp b => pe_call F hr_group_rank rfl m kp b .nil (passX rfl rfl rfl rfl) (ja_cons (jv 8) ja_nil)) (ja_cons (j_call D_group_index fun _ _ _ F m kp b => pe_call F hr_group_index rfl m kp b .nil (passX rfl rfl rfl rfl) (ja_cons (jv 8) ja_nil)) ja_nil)))) (ja_cons (j_lst (fin := FZ) (pe_lst (ja_cons (j_bin op_sub k_sub (j_bin op_addD (k_add (fin := FZ)) j_int (j_bi k_len (pe_callB call_len (by rfl) T.b_len PySem.boot_len (ja_cons (jv 6) ja_nil)))) (j_bi k_len (pe_callB call_len (by rfl) T.b_len PySem.boot_len (ja_cons (jv 8) ja_nil)))) (ja_cons (j_if (jt_val (jv 11)) (j_bi k_len (pe_callB call_len (by rfl) T.b_len PySem.boot_len (ja_cons (jv 8) ja_nil))) j_non) ja_nil)))) ja_nil)) rfl) tPar_of)
    (jb_cons (js_if (jt_cmpR (op_neX hr.units) (nomark _) k_ne (j_bi k_repr (pe_callB (call_reprS hG hr.units) (by rfl) T.b_repr boot_repr (ja_cons (jv 12) ja_nil))) (j_bi k_repr (pe_callB (call_reprS hG hr.units) (by rfl) T.b_repr boot_repr (ja_cons (jv 13) ja_nil)))) (jb_cons (js_ret j_bl)
    jb_nil) jb_nil)
    (jb_sc2 (js_set (ps_set (i := 14) sc_law.nd rfl (by first | exact Or.inl rfl | exact Or.inr rfl) (j_bin op_addD (k_add (fin := BX)) (j_lst (fin := FZ) (pe_lst (ja_cons (j_tup ja_nil) ja_nil))) (jv 3)))) (js_for (ps_for (passes_of rfl) rfl (ji_range1 (pi_range1 rfl T.b_range (ja_cons j_int ja_nil))) (jg_name (i := 9) sc_law.nd rfl (by first | exact Or.inl rfl | exact Or.inr rfl)) (jb_cons (js_expr (j_mt ty_list k_append (pe_bm PySem.F.plainAttrs_list PySem.F.slot_list_append PySem.F.type_list_append mt_append (jv 14) (ja_cons (j_call D__law_net fun _ _ _ F m kp b => pe_call F hr__law_net rfl m kp b .nil (passX rfl rfl rfl rfl) (ja_cons (j_bin op_addD (k_add (fin := FZ)) (j_call D__law_of fun _ _ _ F m kp b => pe_call F hr__law_of rfl m kp b .nil (passX rfl rfl rfl rfl) (ja_cons (jv 1) (ja_cons (jv 14) ja_nil))) (j_call D__law_undone fun _ _ _ F m kp b => pe_call F hr__law_undone rfl m kp b .nil (passX rfl rfl rfl rfl) (ja_cons (j_call D__law_of fun _ _ _ F m kp b => pe_call F hr__law_of rfl m kp b .nil (passX rfl rfl rfl rfl) (ja_cons (jv 1) (ja_cons (jv 14) ja_nil))) ja_nil))) ja_nil)) ja_nil))))
    jb_nil)))
    (jb_cons (js_for (ps_for (passes_of rfl) rfl (ji_seq (pi_seq (j_bin op_addD (k_add (fin := FZ)) (jv 14) (j_lc (fin := FZ) (vs := [9]) (c := bYes) (el := (eCB F__law_doing (aCons (eVar 1) (aCons (eVar 2) (aCons (eC (.int 6)) aNil))))) (gr_name (i := 9)) (gName_mono 9) (pe_lc (own := [("turn", 9)]) rfl sc_law.nd (ji_range1 (pi_range1 rfl T.b_range (ja_cons j_int ja_nil))) (blkOk_by (N := N_law) (sc := defScope s_law) (own := [("turn", 9)]) (by decide +kernel)) (fun _ _ _ _ _ => (pg_name (i := 9) sc_law.nd rfl (by first | exact Or.inl rfl | exact Or.inr rfl))) (fun _ _ _ _ _ => jts_nil) (fun _ _ _ _ _ => (j_call D__law_doing fun _ _ _ F m kp b => pe_call F hr__law_doing rfl m kp b .nil passL (ja_cons (jv 1) (ja_cons (jv 2) (ja_cons j_int ja_nil)))))))))) (jg_name (i := 15) sc_law.nd rfl (by first | exact Or.inl rfl | exact Or.inr rfl)) (jb_cons (js_set (ps_set (i := 16) sc_law.nd rfl (by first | exact Or.inl rfl | exact Or.inr rfl) (j_call D__law_pick fun _ _ _ F m kp b => pe_call F hr__law_pick rfl m kp b .nil (passX rfl rfl rfl rfl) (ja_cons (jv 1) (ja_cons (j_bi k_len (pe_callB call_len (by rfl) T.b_len PySem.boot_len (ja_cons (jv 8) ja_nil))) ja_nil)))))
    (jb_cons (js_set (ps_set (i := 12) sc_law.nd rfl (by first | exact Or.inl rfl | exact Or.inr rfl) (j_lst (fin := BX) (pe_lst (ja_cons (j_call D_is_member fun _ _ _ F m kp b => pe_call F hr_is_member rfl m kp b .nil (passX rfl rfl rfl rfl) (ja_cons (jv 8) (ja_cons (jv 15) ja_nil))) (ja_cons (j_call D_read_row fun _ _ _ F m kp b => pe_call F hr_read_row rfl m kp b .nil (passX rfl rfl rfl rfl) (ja_cons (jv 8) (ja_cons j_int (ja_cons (jv 15) ja_nil)))) (ja_cons (j_call D_read_row fun _ _ _ F m kp b => pe_call F hr_read_row rfl m kp b .nil (passX rfl rfl rfl rfl) (ja_cons (jv 8) (ja_cons (jv 16) (ja_cons (jv 15) ja_nil)))) ja_nil)))))))
    (jb_cons (js_if (jt_cmpR (op_neX hr.units) (nomark _) k_ne (j_bi k_repr (pe_callB (call_reprS hG hr.units) (by rfl) T.b_repr boot_repr (ja_cons (jv 12) ja_nil))) (j_bi k_repr (pe_callB (call_reprS hG hr.units) (by rfl) T.b_repr boot_repr (ja_cons (j_lst (fin := FZ) (pe_lst (ja_cons (j_cmp (op_eqX hr.units) (nomark _) k_eq (j_call D__law_read fun _ _ _ F m kp b => pe_call F hr__law_read rfl m kp b .nil (passX rfl rfl rfl rfl) (ja_cons (jv 8) (ja_cons j_int (ja_cons (jv 15) ja_nil)))) j_int) (ja_cons (j_call D__law_read fun _ _ _ F m kp b => pe_call F hr__law_read rfl m kp b .nil (passX rfl rfl rfl rfl) (ja_cons (jv 8) (ja_cons j_int (ja_cons (jv 15) ja_nil)))) (ja_cons (j_call D__law_read fun _ _ _ F m kp b => pe_call F hr__law_read rfl m kp b .nil (passX rfl rfl rfl rfl) (ja_cons (jv 8) (ja_cons (jv 16) (ja_cons (jv 15) ja_nil)))) ja_nil))))) ja_nil)))) (jb_cons (js_ret j_bl)
    jb_nil) jb_nil)
    jb_nil)))))
    (jb_cons (js_if (jt_cmpR (op_neX hr.units) (nomark _) k_ne (j_lc (fin := FZ) (vs := [15]) (c := (bVal (e2 opNe (eCB F__law_read (aCons (eVar 8) (aCons (eC (.int 0)) (aCons (eVar 15) aNil)))) (eC (.int 0))))) (el := (eVar 15)) (gr_name (i := 15)) (gName_mono 15) (pe_lc (own := [("doing", 15)]) rfl sc_law.nd (ji_seq (pi_seq (jv 14))) (blkOk_by (N := N_law) (sc := defScope s_law) (own := [("doing", 15)]) (by decide +kernel)) (fun _ _ _ _ _ => (pg_name (i := 15) sc_law.nd rfl (by first | exact Or.inl rfl | exact Or.inr rfl))) (fun _ _ _ _ _ => (jts_one (jt_cmpR (op_neX hr.units) (nomark _) k_ne (j_call D__law_read fun _ _ _ F m kp b => pe_call F hr__law_read rfl m kp b .nil passL (ja_cons (jv 8) (ja_cons j_int (ja_cons (jv 15) ja_nil)))) j_int))) (fun _ _ _ _ _ => (jv 15)))) (j_lst (fin := FZ) (pe_lst ja_nil))) (jb_cons (js_ret j_bl)
    jb_nil) jb_nil)
    (jb_cons (js_if (jt_cmpR op_gt (nomark _) k_gt (j_call D__law_pick fun _ _ _ F m kp b => pe_call F hr__law_pick rfl m kp b .nil (passX rfl rfl rfl rfl) (ja_cons (jv 1) (ja_cons j_int ja_nil))) j_int) (jb_cons (js_ret j_bl)
    jb_nil) jb_nil)
    jb_nil))))))))))))))))
end
end K48
set_option Elab.async false
set_option linter.all false
set_option maxRecDepth 100000
set_option maxHeartbeats 1000000
namespace K48
open PySem PySem.Spec PyProof.Rows L2 Hx
theorem bindS_ok {α : Type} (a : α) (S : Store) (k : α → Store → SR) : (Hx.R.ok a S).bindS k = k a S := rfl
theorem sSeq_nx {f g : SS} {env env' : Ev} {S S' : Store} (h : f env S = .nx env' S') : sSeq f g env S = g env' S' := by
  unfold sSeq
  rw [h]
theorem dW_def (ns : List Int) : dW ns = .tup (ns.map .int) := rfl
theorem un_law (ns : List Int) (S : Store) (h : ns.length ≤ sizeLine) : F__law_undone [dW ns] S = .ok (dW (ns.reverse.map fun x => 0 - x)) S := by
  unfold F__law_undone cutF defF u__law_undone
  rw [dW_def, dW_def]
  simp only [eVar, eC, e1, e2, eCB, aNil, aCons, eTup, sNil, sSeq, sAsg, sSet, sExpr, sRet, sRetN, sIf, sPass, sBreak, sCont, bVal, bAnd, bOr, bNot, eIf, eAnd, eOr, sPar, sPar3, sAug, eLst, eBack, eSl, eLc, FZ, BX, gN, gT, gAll, oNone, oSome, opSl, conL, seqL, stL, srcV, srcE, srcR1, srcR2, R.bind_ok, bindS_ok, List.getElem?_cons_zero, List.getElem?_cons_succ, List.length_cons, List.length_nil, Nat.zero_add, List.set_cons_zero, List.set_cons_succ, Option.bind_some, if_true, if_false, Bool.false_eq_true, reduceIte, opSub, opAdd, Hx.opI, opGt, opLt, opGe, opLe, opDiv, opMod, opNeg, opIsN, opNotN, biAbs, biInt, biMax, biMin, bi2, biLen, biTuple, wipeE, bYes, List.map_cons, List.map_nil, List.replicate, List.cons_append, List.nil_append]
  rw [← List.map_reverse, lcL_pure (enc := D.int) (fun _ => true) (fun x => .int (0 - x)) ns.reverse [] (fun a _ => ⟨_, rfl, rfl, fun _ => by simp only [eVar, eC, e1, e2, eCB, aNil, aCons, eTup, sNil, sSeq, sAsg, sSet, sExpr, sRet, sRetN, sIf, sPass, sBreak, sCont, bVal, bAnd, bOr, bNot, eIf, eAnd, eOr, sPar, sPar3, sAug, eLst, eBack, eSl, eLc, FZ, BX, gN, gT, gAll, oNone, oSome, opSl, conL, seqL, stL, srcV, srcE, srcR1, srcR2, R.bind_ok, bindS_ok, List.getElem?_cons_zero, List.getElem?_cons_succ, List.length_cons, List.length_nil, Nat.zero_add, List.set_cons_zero, List.set_cons_succ, Option.bind_some, if_true, if_false, Bool.false_eq_true, reduceIte, opSub, opAdd, Hx.opI, opGt, opLt, opGe, opLe, opDiv, opMod, opNeg, opIsN, opNotN, biAbs, biInt, biMax, biMin, bi2, biLen, biTuple, wipeE, bYes, List.map_cons, List.map_nil, List.replicate, List.cons_append, List.nil_append]⟩) (by simpa using h)]
  simp only [eVar, eC, e1, e2, eCB, aNil, aCons, eTup, sNil, sSeq, sAsg, sSet, sExpr, sRet, sRetN, sIf, sPass, sBreak, sCont, bVal, bAnd, bOr, bNot, eIf, eAnd, eOr, sPar, sPar3, sAug, eLst, eBack, eSl, eLc, FZ, BX, gN, gT, gAll, oNone, oSome, opSl, conL, seqL, stL, srcV, srcE, srcR1, srcR2, R.bind_ok, bindS_ok, List.getElem?_cons_zero, List.getElem?_cons_succ, List.length_cons, List.length_nil, Nat.zero_add, List.set_cons_zero, List.set_cons_succ, Option.bind_some, if_true, if_false, Bool.false_eq_true, reduceIte, opSub, opAdd, Hx.opI, opGt, opLt, opGe, opLe, opDiv, opMod, opNeg, opIsN, opNotN, biAbs, biInt, biMax, biMin, bi2, biLen, biTuple, wipeE, bYes, List.map_cons, List.map_nil, List.replicate, List.cons_append, List.nil_append]
  rw [List.filter_eq_self.mpr (fun _ _ => rfl)]
  have e : (ns.reverse.map fun x => D.int (0 - x)) = (ns.reverse.map fun x => 0 - x).map D.int := by rw [List.map_map]; rfl
  rw [e]
  exact cutR_pure (dW_pure _)
theorem read_on_ok (rows : List D) (row : List D) (p s : Int) (a b : D) (S : Store) (hp : L2.atI rows p = some (.tup row)) (hr : L2.atI row ((if s < 0 then -s else s) - 1) = some (.tup [a, b])) (ha : a.pure = true) (hb : b.pure = true) :
    F_read_on [.tup rows, .int p, .int s] S = .ok (if 0 < s then a else b) S := by
  unfold F_read_on cutF defF u_read_on
  have h0 : L2.atI [a, b] 0 = some a := rfl
  have h1 : L2.atI [a, b] 1 = some b := rfl
  simp only [eVar, eC, e1, e2, eCB, aNil, aCons, eTup, sNil, sSeq, sAsg, sSet, sExpr, sRet, sRetN, sIf, sPass, sBreak, sCont, bVal, bAnd, bOr, bNot, eIf, eAnd, eOr, sPar, sPar3, sAug, eLst, eBack, eSl, eLc, FZ, BX, gN, gT, gAll, oNone, oSome, opSl, conL, seqL, stL, srcV, srcE, srcR1, srcR2, R.bind_ok, bindS_ok, List.getElem?_cons_zero, List.getElem?_cons_succ, List.length_cons, List.length_nil, Nat.zero_add, List.set_cons_zero, List.set_cons_succ, Option.bind_some, if_true, if_false, Bool.false_eq_true, reduceIte, opSub, opAdd, Hx.opI, opGt, opLt, opGe, opLe, opDiv, opMod, opNeg, opIsN, opNotN, biAbs, biInt, biMax, biMin, bi2, biLen, biTuple, wipeE, bYes, List.map_cons, List.map_nil, List.replicate, List.cons_append, List.nil_append]
  simp only [opIx, seqL, hp, hr, R.bind_ok, bindS_ok, List.getElem?_cons_zero, List.getElem?_cons_succ, List.set_cons_zero, List.set_cons_succ]
  by_cases q : 0 < s
  · simp only [q, decide_true, if_true, h0, h1, R.bind_ok, bindS_ok]
    exact cutR_pure ha
  · simp only [q, decide_false, if_false, h0, h1, R.bind_ok, bindS_ok, Bool.false_eq_true]
    exact cutR_pure hb
/-- one letter put ahead of a reduced word -/
def push (x : Int) : List Int → List Int
  | [] => [x]
  | y :: r => if x + y = 0 then r else x :: y :: r
def net (w : List Int) : List Int := w.foldr push []
theorem net_len : ∀ w : List Int, (net w).length ≤ w.length
  | [] => Nat.le_refl _
  | x :: r => by
    have h := net_len r
    show (push x (net r)).length ≤ _
    cases e : net r with
    | nil => simp [push]
    | cons y t =>
      rw [e] at h
      have h' : t.length + 1 ≤ r.length := h
      show (if x + y = 0 then t else x :: y :: t).length ≤ _
      by_cases q : x + y = 0
      · rw [if_pos q, List.length_cons]
        omega
      · rw [if_neg q, List.length_cons, List.length_cons, List.length_cons]
        omega
theorem net_drop (w : List Int) (i : Nat) (x : Int) (h : w[i]? = some x) : net (w.drop i) = push x (net (w.drop (i + 1))) := by
  obtain ⟨hl, rfl⟩ := List.getElem?_eq_some_iff.mp h
  rw [List.drop_eq_getElem_cons hl]
  rfl
theorem cut_lo (ds : List D) (n : Nat) (h : n ≤ ds.length) : Hx.cutD ds none (some (n : Int)) = ds.take n := by
  unfold Hx.cutD
  rw [HT.sIx_nat, HT.sIx_none, List.drop_zero, Nat.min_eq_left h, Nat.sub_zero]
theorem cut_hi (ds : List D) (n : Nat) (h : n ≤ ds.length) : Hx.cutD ds (some (n : Int)) none = ds.drop n := by
  unfold Hx.cutD
  rw [HT.sIx_nat, HT.sIx_none, Nat.min_eq_left h, List.take_of_length_le (by rw [List.length_drop]; exact Nat.le_refl _)]
theorem opIx_nat {ds : List D} {x d : D} {S : Store} {j : Nat} (hs : seqL S x = some ds) (h : ds[j]? = some d) : opIx x (.int (j : Int)) S = .ok d S := by
  unfold opIx
  rw [hs]
  dsimp only
  rw [atI_nat h]
theorem eqD_int (S : Store) (a b : Int) : eqD S (.int a) (.int b) = some (decide (a = b)) := rfl
theorem sl_lst (ds : List D) (lo hi : Option Int) (S : Store) : opSl FZ (.lst ds) lo hi S = .ok (.lst (Hx.cutD ds lo hi)) S := rfl
theorem add_lst (a b : List D) (S : Store) (h : a.length + b.length ≤ sizeLine) : opAdd FZ (.lst a) (.lst b) S = .ok (.lst (a ++ b)) S := by
  unfold opAdd
  simp only [conL]
  rw [if_pos h]
  rfl
/-- the loop of _law_net: j letters stand as they came, the rest is reduced -/
def netC : SB := (bVal (e2 opGe (eVar 2) (eC (.int 0))))
def netB : SS := (sSeq (sIf (bAnd (bVal (e2 opLt (e2 (opAdd FZ) (eVar 2) (eC (.int 1))) (eCB (biLen) (aCons (eVar 1) aNil)))) (bVal (e2 opEq (e2 (opAdd FZ) (e2 opIx (eVar 1) (eVar 2)) (e2 opIx (eVar 1) (e2 (opAdd FZ) (eVar 2) (eC (.int 1))))) (eC (.int 0))))) (sSeq (sSet 1 (e2 (opAdd FZ) (eSl FZ (eVar 1) oNone (oSome (eVar 2))) (eSl FZ (eVar 1) (oSome (e2 (opAdd FZ) (eVar 2) (eC (.int 2)))) oNone)))
    sNil) sNil)
    (sSeq (sSet 2 (e2 (opSub) (eVar 2) (eC (.int 1))))
    sNil))
theorem netB_turn (w : List Int) (S : Store) (h : w.length ≤ 100000) (i : Nat) (hi : i < w.length) (x0 : Option D) :
    netB [x0, some (.lst ((w.take (i + 1) ++ net (w.drop (i + 1))).map .int)), some (.int (i : Int))] S = .nx [x0, some (.lst ((w.take i ++ net (w.drop i)).map .int)), some (.int ((i : Int) - 1))] S := by
  have hline : (200000 : Nat) ≤ sizeLine := by decide
  have hw : w[i]? = some w[i] := List.getElem?_eq_getElem hi
  have tk : w.take (i + 1) = w.take i ++ [w[i]] := by rw [List.take_succ, hw]; rfl
  have nd := net_drop w i _ hw
  have nl := net_len (w.drop (i + 1))
  rw [List.length_drop] at nl
  unfold netB
  have e1 : ((i : Int) + 1) = ((i + 1 : Nat) : Int) := by omega
  have e2' : ((i : Int) + 2) = ((i + 2 : Nat) : Int) := by omega
  simp only [eVar, eC, e1, e2, eCB, aNil, aCons, eTup, sNil, sSeq, sAsg, sSet, sExpr, sRet, sRetN, sIf, sPass, sBreak, sCont, bVal, bAnd, bOr, bNot, eIf, eAnd, eOr, sPar, sPar3, sAug, eLst, eBack, eSl, eLc, FZ, BX, gN, gT, gAll, oNone, oSome, opSl, conL, seqL, stL, srcV, srcE, srcR1, srcR2, R.bind_ok, bindS_ok, List.getElem?_cons_zero, List.getElem?_cons_succ, List.length_cons, List.length_nil, Nat.zero_add, List.set_cons_zero, List.set_cons_succ, Option.bind_some, if_true, if_false, Bool.false_eq_true, reduceIte, opSub, opAdd, Hx.opI, opGt, opLt, opGe, opLe, opDiv, opMod, opNeg, opIsN, opNotN, biAbs, biInt, biMax, biMin, bi2, biLen, biTuple, wipeE, bYes, List.map_cons, List.map_nil, List.replicate, List.cons_append, List.nil_append]
  simp only [e1, e2', List.length_map, List.length_append, List.length_take, Nat.min_eq_left (show i + 1 ≤ w.length from hi)]
  cases q : net (w.drop (i + 1)) with
  | nil =>
    rw [q] at nd
    have hn : ¬ (((i + 1 : Nat) : Int) < ((i + 1 + ([] : List Int).length : Nat) : Int)) := by simp
    simp only [hn, decide_false, if_false, Bool.false_eq_true]
    rw [nd, tk]
    simp [push]
  | cons y t =>
    rw [q] at nd
    have hn : (((i + 1 : Nat) : Int) < ((i + 1 + (y :: t).length : Nat) : Int)) := by simp; omega
    have a0 : ((w.take (i + 1) ++ y :: t).map D.int)[i]? = some (.int w[i]) := by
      rw [tk]
      rw [List.getElem?_map, List.append_assoc, List.getElem?_append_right (by rw [List.length_take]; omega), List.length_take, Nat.min_eq_left (Nat.le_of_lt hi), Nat.sub_self]
      rfl
    have a1 : ((w.take (i + 1) ++ y :: t).map D.int)[i + 1]? = some (.int y) := by
      rw [List.getElem?_map, List.getElem?_append_right (by rw [List.length_take]; omega), List.length_take, Nat.min_eq_left (show i + 1 ≤ w.length from hi), Nat.sub_self]
      rfl
    have o0 : opIx (.lst ((w.take (i + 1) ++ y :: t).map D.int)) (.int (i : Int)) S = .ok (.int w[i]) S := opIx_nat rfl a0
    have o1 : opIx (.lst ((w.take (i + 1) ++ y :: t).map D.int)) (.int ((i + 1 : Nat) : Int)) S = .ok (.int y) S := opIx_nat rfl a1
    simp only [hn, decide_true, if_true, o0, o1, R.bind_ok, bindS_ok]
    have ll : ((w.take (i + 1) ++ y :: t).map D.int).length = i + 1 + (t.length + 1) := by
      rw [List.length_map, List.length_append, List.length_take, Nat.min_eq_left (show i + 1 ≤ w.length from hi), List.length_cons]
    have nl' : t.length + 1 ≤ w.length - (i + 1) := by
      rw [q] at nl
      exact nl
    rw [cut_lo _ i (by omega), cut_hi _ (i + 2) (by omega)]
    have sz : (((w.take (i + 1) ++ y :: t).map D.int).take i).length + (((w.take (i + 1) ++ y :: t).map D.int).drop (i + 2)).length ≤ sizeLine := by
      rw [List.length_take, List.length_drop]
      omega
    have c0 : ((w.take (i + 1) ++ y :: t).map D.int).take i = (w.take i).map D.int := by
      rw [← List.map_take, List.take_append_of_le_length (by rw [List.length_take]; omega), List.take_take, Nat.min_eq_left (Nat.le_succ i)]
    have c1 : ((w.take (i + 1) ++ y :: t).map D.int).drop (i + 2) = t.map D.int := by
      have : w.take (i + 1) ++ y :: t = (w.take (i + 1) ++ [y]) ++ t := by simp
      rw [this, ← List.map_drop, List.drop_left' (by rw [List.length_append, List.length_take, List.length_singleton]; omega)]
    unfold opEq
    rw [eqD_int]
    simp only [eVar, eC, e1, e2, eCB, aNil, aCons, eTup, sNil, sSeq, sAsg, sSet, sExpr, sRet, sRetN, sIf, sPass, sBreak, sCont, bVal, bAnd, bOr, bNot, eIf, eAnd, eOr, sPar, sPar3, sAug, eLst, eBack, eSl, eLc, FZ, BX, gN, gT, gAll, oNone, oSome, opSl, conL, seqL, stL, srcV, srcE, srcR1, srcR2, R.bind_ok, bindS_ok, List.getElem?_cons_zero, List.getElem?_cons_succ, List.length_cons, List.length_nil, Nat.zero_add, List.set_cons_zero, List.set_cons_succ, Option.bind_some, if_true, if_false, Bool.false_eq_true, reduceIte, opSub, opAdd, Hx.opI, opGt, opLt, opGe, opLe, opDiv, opMod, opNeg, opIsN, opNotN, biAbs, biInt, biMax, biMin, bi2, biLen, biTuple, wipeE, bYes, List.map_cons, List.map_nil, List.replicate, List.cons_append, List.nil_append]
    by_cases z : w[i] + y = 0
    · simp only [z, decide_true, if_true, sz]
      simp only [eVar, eC, e1, e2, eCB, aNil, aCons, eTup, sNil, sSeq, sAsg, sSet, sExpr, sRet, sRetN, sIf, sPass, sBreak, sCont, bVal, bAnd, bOr, bNot, eIf, eAnd, eOr, sPar, sPar3, sAug, eLst, eBack, eSl, eLc, FZ, BX, gN, gT, gAll, oNone, oSome, opSl, conL, seqL, stL, srcV, srcE, srcR1, srcR2, R.bind_ok, bindS_ok, List.getElem?_cons_zero, List.getElem?_cons_succ, List.length_cons, List.length_nil, Nat.zero_add, List.set_cons_zero, List.set_cons_succ, Option.bind_some, if_true, if_false, Bool.false_eq_true, reduceIte, opSub, opAdd, Hx.opI, opGt, opLt, opGe, opLe, opDiv, opMod, opNeg, opIsN, opNotN, biAbs, biInt, biMax, biMin, bi2, biLen, biTuple, wipeE, bYes, List.map_cons, List.map_nil, List.replicate, List.cons_append, List.nil_append]
      rw [c0, c1, nd]
      have pz : push w[i] (y :: t) = t := if_pos z
      rw [pz, List.map_append]
    · simp only [z, decide_false, if_false, Bool.false_eq_true]
      rw [nd, tk]
      have pz : push w[i] (y :: t) = w[i] :: y :: t := if_neg z
      rw [pz, List.append_assoc]
      rfl
theorem net_loop (w : List Int) (S : Store) (h : w.length ≤ 100000) (x0 : Option D) (j : Nat) (hj : j ≤ w.length) :
    ∃ k, sWhile netC netB [x0, some (.lst ((w.take j ++ net (w.drop j)).map .int)), some (.int ((j : Int) - 1))] S = .nx [x0, some (.lst ((net w).map .int)), some (.int k)] S := by
  obtain ⟨env', S', e, k, rfl, rfl⟩ := whileL_go (c := netC) (u := netB) (fun m env S' => ∃ i : Nat, m = i ∧ i ≤ w.length ∧ S' = S ∧ env = [x0, some (.lst ((w.take i ++ net (w.drop i)).map .int)), some (.int ((i : Int) - 1))])
    (fun env S' => ∃ k, S' = S ∧ env = [x0, some (.lst ((net w).map .int)), some (.int k)]) (fun m env S' hR => by
      obtain ⟨i, rfl, hi, rfl, rfl⟩ := hR
      cases m with
      | zero =>
        refine .inl ⟨?_, -1, rfl, ?_⟩
        · unfold netC
          simp only [eVar, eC, e1, e2, eCB, aNil, aCons, eTup, sNil, sSeq, sAsg, sSet, sExpr, sRet, sRetN, sIf, sPass, sBreak, sCont, bVal, bAnd, bOr, bNot, eIf, eAnd, eOr, sPar, sPar3, sAug, eLst, eBack, eSl, eLc, FZ, BX, gN, gT, gAll, oNone, oSome, opSl, conL, seqL, stL, srcV, srcE, srcR1, srcR2, R.bind_ok, bindS_ok, List.getElem?_cons_zero, List.getElem?_cons_succ, List.length_cons, List.length_nil, Nat.zero_add, List.set_cons_zero, List.set_cons_succ, Option.bind_some, if_true, if_false, Bool.false_eq_true, reduceIte, opSub, opAdd, Hx.opI, opGt, opLt, opGe, opLe, opDiv, opMod, opNeg, opIsN, opNotN, biAbs, biInt, biMax, biMin, bi2, biLen, biTuple, wipeE, bYes, List.map_cons, List.map_nil, List.replicate, List.cons_append, List.nil_append]
          rfl
        · rw [List.take_zero, List.drop_zero, List.nil_append]
          rfl
      | succ i =>
        refine .inr ⟨S', _, S', i, ?_, .inl (by
          have e : (((i + 1 : Nat) : Int) - 1) = (i : Int) := by omega
          rw [e]
          exact netB_turn w S' h i hi x0), Nat.lt_succ_self i, i, rfl, Nat.le_of_lt hi, rfl, rfl⟩
        unfold netC
        simp only [eVar, eC, e1, e2, eCB, aNil, aCons, eTup, sNil, sSeq, sAsg, sSet, sExpr, sRet, sRetN, sIf, sPass, sBreak, sCont, bVal, bAnd, bOr, bNot, eIf, eAnd, eOr, sPar, sPar3, sAug, eLst, eBack, eSl, eLc, FZ, BX, gN, gT, gAll, oNone, oSome, opSl, conL, seqL, stL, srcV, srcE, srcR1, srcR2, R.bind_ok, bindS_ok, List.getElem?_cons_zero, List.getElem?_cons_succ, List.length_cons, List.length_nil, Nat.zero_add, List.set_cons_zero, List.set_cons_succ, Option.bind_some, if_true, if_false, Bool.false_eq_true, reduceIte, opSub, opAdd, Hx.opI, opGt, opLt, opGe, opLe, opDiv, opMod, opNeg, opIsN, opNotN, biAbs, biInt, biMax, biMin, bi2, biLen, biTuple, wipeE, bYes, List.map_cons, List.map_nil, List.replicate, List.cons_append, List.nil_append]
        have : (0 : Int) ≤ ((i + 1 : Nat) : Int) - 1 := by omega
        simp only [this, decide_true]) turns j _ S (by unfold turns; omega) ⟨j, rfl, hj, rfl, rfl⟩
  exact ⟨k, e⟩
theorem biLen_seq {S : Store} {d : D} {ds : List D} (h : seqL S d = some ds) : biLen [d] S = .ok (.int (ds.length : Nat)) S := by
  cases d with
  | str x => cases h
  | _ => unfold biLen; simp only [h]
theorem net_lawG (w : List Int) (d : D) (S : Store) (hd : d = .tup (w.map .int) ∨ d = .lst (w.map .int)) (h : w.length ≤ 100000) : F__law_net [d] S = .ok (dW (net w)) S := by
  have key : ∀ x0, ∃ k, sWhile netC netB [x0, some (.lst (w.map .int)), some (.int ((w.length : Int) - 2))] S = .nx [x0, some (.lst ((net w).map .int)), some (.int k)] S := fun x0 => by
    by_cases hw : w.length = 0
    · have : w = [] := List.eq_nil_of_length_eq_zero hw
      subst this
      refine ⟨-2, ?_⟩
      unfold sWhile turns whileL netC
      simp only [eVar, eC, e1, e2, eCB, aNil, aCons, eTup, sNil, sSeq, sAsg, sSet, sExpr, sRet, sRetN, sIf, sPass, sBreak, sCont, bVal, bAnd, bOr, bNot, eIf, eAnd, eOr, sPar, sPar3, sAug, eLst, eBack, eSl, eLc, FZ, BX, gN, gT, gAll, oNone, oSome, opSl, conL, seqL, stL, srcV, srcE, srcR1, srcR2, R.bind_ok, bindS_ok, List.getElem?_cons_zero, List.getElem?_cons_succ, List.length_cons, List.length_nil, Nat.zero_add, List.set_cons_zero, List.set_cons_succ, Option.bind_some, if_true, if_false, Bool.false_eq_true, reduceIte, opSub, opAdd, Hx.opI, opGt, opLt, opGe, opLe, opDiv, opMod, opNeg, opIsN, opNotN, biAbs, biInt, biMax, biMin, bi2, biLen, biTuple, wipeE, bYes, List.map_cons, List.map_nil, List.replicate, List.cons_append, List.nil_append]
      rfl
    · have := net_loop w S h x0 (w.length - 1) (by omega)
      have e1 : w.take (w.length - 1) ++ net (w.drop (w.length - 1)) = w := by
        conv => rhs; rw [← List.take_append_drop (w.length - 1) w]
        congr 1
        have hl : (w.drop (w.length - 1)).length = 1 := by rw [List.length_drop]; omega
        obtain ⟨a, ha⟩ := List.length_eq_one_iff.mp hl
        rw [ha]
        rfl
      have e2 : ((w.length - 1 : Nat) : Int) - 1 = (w.length : Int) - 2 := by omega
      rw [e1, e2] at this
      exact this
  obtain ⟨k, e⟩ := key (some d)
  have e0 : u__law_net = sSeq (sPar 1 2 (aCons (eCB (biList FZ) (aCons (eVar 0) aNil)) (aCons (e2 (opSub) (eCB (biLen) (aCons (eVar 0) aNil)) (eC (.int 2))) aNil)))
    (sSeq (sWhile netC netB) (sSeq (sRet (eCB (biTuple) (aCons (eVar 1) aNil))) sNil)) := rfl
  have ep : sPar 1 2 (aCons (eCB (biList FZ) (aCons (eVar 0) aNil)) (aCons (e2 (opSub) (eCB (biLen) (aCons (eVar 0) aNil)) (eC (.int 2))) aNil)) [some d, none, none] S = .nx [some d, some (.lst (w.map .int)), some (.int ((w.length : Int) - 2))] S := by
    rcases hd with rfl | rfl
    · simp only [eVar, eC, e1, e2, eCB, aNil, aCons, eTup, sNil, sSeq, sAsg, sSet, sExpr, sRet, sRetN, sIf, sPass, sBreak, sCont, bVal, bAnd, bOr, bNot, eIf, eAnd, eOr, sPar, sPar3, sAug, eLst, eBack, eSl, eLc, FZ, BX, gN, gT, gAll, oNone, oSome, opSl, conL, seqL, stL, srcV, srcE, srcR1, srcR2, R.bind_ok, bindS_ok, List.getElem?_cons_zero, List.getElem?_cons_succ, List.length_cons, List.length_nil, Nat.zero_add, List.set_cons_zero, List.set_cons_succ, Option.bind_some, if_true, if_false, Bool.false_eq_true, reduceIte, opSub, opAdd, Hx.opI, opGt, opLt, opGe, opLe, opDiv, opMod, opNeg, opIsN, opNotN, biAbs, biInt, biMax, biMin, bi2, biLen, biTuple, wipeE, bYes, List.map_cons, List.map_nil, List.replicate, List.cons_append, List.nil_append]
      simp only [biList, seqL, conL, FZ, R.bind_ok, bindS_ok, List.length_map]
    · simp only [eVar, eC, e1, e2, eCB, aNil, aCons, eTup, sNil, sSeq, sAsg, sSet, sExpr, sRet, sRetN, sIf, sPass, sBreak, sCont, bVal, bAnd, bOr, bNot, eIf, eAnd, eOr, sPar, sPar3, sAug, eLst, eBack, eSl, eLc, FZ, BX, gN, gT, gAll, oNone, oSome, opSl, conL, seqL, stL, srcV, srcE, srcR1, srcR2, R.bind_ok, bindS_ok, List.getElem?_cons_zero, List.getElem?_cons_succ, List.length_cons, List.length_nil, Nat.zero_add, List.set_cons_zero, List.set_cons_succ, Option.bind_some, if_true, if_false, Bool.false_eq_true, reduceIte, opSub, opAdd, Hx.opI, opGt, opLt, opGe, opLe, opDiv, opMod, opNeg, opIsN, opNotN, biAbs, biInt, biMax, biMin, bi2, biLen, biTuple, wipeE, bYes, List.map_cons, List.map_nil, List.replicate, List.cons_append, List.nil_append]
      simp only [biList, seqL, conL, FZ, R.bind_ok, bindS_ok, List.length_map]
  unfold F__law_net cutF defF
  rw [dW_def, e0]
  show cutR S (match sSeq _ _ [some d, none, none] S with
    | .rt d S' => .ok d S'
    | .nx _ S' => .ok .non S'
    | .exc x S' => .exc x S'
    | _ => .stuck) = _
  rw [sSeq_nx ep, sSeq_nx e]
  simp only [eVar, eC, e1, e2, eCB, aNil, aCons, eTup, sNil, sSeq, sAsg, sSet, sExpr, sRet, sRetN, sIf, sPass, sBreak, sCont, bVal, bAnd, bOr, bNot, eIf, eAnd, eOr, sPar, sPar3, sAug, eLst, eBack, eSl, eLc, FZ, BX, gN, gT, gAll, oNone, oSome, opSl, conL, seqL, stL, srcV, srcE, srcR1, srcR2, R.bind_ok, bindS_ok, List.getElem?_cons_zero, List.getElem?_cons_succ, List.length_cons, List.length_nil, Nat.zero_add, List.set_cons_zero, List.set_cons_succ, Option.bind_some, if_true, if_false, Bool.false_eq_true, reduceIte, opSub, opAdd, Hx.opI, opGt, opLt, opGe, opLe, opDiv, opMod, opNeg, opIsN, opNotN, biAbs, biInt, biMax, biMin, bi2, biLen, biTuple, wipeE, bYes, List.map_cons, List.map_nil, List.replicate, List.cons_append, List.nil_append]
  exact cutR_pure (dW_pure _)
theorem net_law (w : List Int) (S : Store) (h : w.length ≤ 100000) : F__law_net [dW w] S = .ok (dW (net w)) S := net_lawG w (dW w) S (.inl rfl) h
end K48
set_option Elab.async false
set_option linter.all false
set_option maxRecDepth 100000
set_option maxHeartbeats 1000000
namespace K48
open PySem PySem.Spec PyProof.Rows L2 Hx
/-! ### the source of choices -/
def Src (s0 s1 : D) : Prop := ∃ (cells : List Int) (left mixed turn : Int), cells.length ≤ 100 ∧ s0 = .dK [(.inr "cells", .obj 1), (.inr "left", .int left), (.inr "mixed", .int mixed), (.inr "turn", .int turn)] ∧ s1 = .lst (cells.map .int)
theorem mul_small (a b : Int) (S : Store) (h : small64 b = true) : opMulX FZ (.int a) (.int b) S = .ok (.int (a * b)) S := by
  unfold opMulX opMul
  simp only [h, Bool.or_true, if_true]
theorem source_law (ns : List Int) (h : ns.length ≤ 100) : ∃ s0 s1, Src s0 s1 ∧ F__law_source [.scr ns] [] = .ok (.obj 0) [s0, s1] := by
  have hline : (200000 : Nat) ≤ sizeLine := by decide
  obtain ⟨env', S', e, m, i, e2, e3⟩ := forL_go (enc := D.int) (g := gN 2) (u := (sSeq (sSet 1 (e2 (opMod) (eCB (biInt) (aCons (e2 (opAdd FZ) (e2 (opAdd FZ) (e2 (opMulX FZ) (eVar 1) (eC (.int 69069))) (e2 (opMulX FZ) (eVar 2) (eC (.int 31)))) (eC (.int 5))) aNil)) (eC (.int 2147483629))))
    sNil)) (fun _ env S => ∃ (m : Int) (i : Option D), S = [] ∧ env = [some (.scr ns), some (.int m), i]) ns [] [some (.scr ns), some (.int 11), none] [] ⟨11, none, rfl, rfl⟩ (fun pre a post env S _ hR _ => by
      obtain ⟨m, i, rfl, rfl⟩ := hR
      refine ⟨_, [some (.scr ns), some (.int ((m * 69069 + a * 31 + 5).fmod 2147483629)), some (.int a)], [], rfl, .inl ?_, _, _, rfl, rfl⟩
      simp only [eVar, eC, e1, e2, eCB, aNil, aCons, eTup, sNil, sSeq, sAsg, sSet, sExpr, sRet, sRetN, sIf, sPass, sBreak, sCont, bVal, bAnd, bOr, bNot, eIf, eAnd, eOr, sPar, sPar3, sAug, eLst, eBack, eSl, eLc, FZ, BX, gN, gT, gAll, oNone, oSome, opSl, conL, seqL, stL, srcV, srcE, srcR1, srcR2, R.bind_ok, bindS_ok, List.getElem?_cons_zero, List.getElem?_cons_succ, List.length_cons, List.length_nil, Nat.zero_add, List.set_cons_zero, List.set_cons_succ, Option.bind_some, if_true, if_false, Bool.false_eq_true, reduceIte, opSub, opAdd, Hx.opI, opGt, opLt, opGe, opLe, opDiv, opMod, opNeg, opIsN, opNotN, biAbs, biInt, biMax, biMin, bi2, biLen, biTuple, wipeE, bYes, List.map_cons, List.map_nil, List.replicate, List.cons_append, List.nil_append]
      simp only [mul_small _ 69069 _ (by decide), mul_small _ 31 _ (by decide), R.bind_ok, bindS_ok]
      rfl)
  obtain rfl := e2
  obtain rfl := e3
  refine ⟨_, .lst ((ns.map fun x => if x < 0 then -x else x).reverse.map .int), ⟨_, 1, m, 0, by rw [List.length_reverse, List.length_map]; exact h, rfl, rfl⟩, ?_⟩
  have hlc : lcL (gN 2) bYes (eCB biAbs (aCons (eVar 2) aNil)) [some (.scr ns), some (.int m), none] (ns.map .int) [] [.dK []] = .ok (ns.map fun x => .int (if x < 0 then -x else x)) [.dK []] := by
    rw [lcL_pure (enc := D.int) (fun _ => true) (fun x => .int (if x < 0 then -x else x)) ns [] (fun a _ => ⟨_, rfl, rfl, fun _ => by simp only [eVar, eC, e1, e2, eCB, aNil, aCons, eTup, sNil, sSeq, sAsg, sSet, sExpr, sRet, sRetN, sIf, sPass, sBreak, sCont, bVal, bAnd, bOr, bNot, eIf, eAnd, eOr, sPar, sPar3, sAug, eLst, eBack, eSl, eLc, FZ, BX, gN, gT, gAll, oNone, oSome, opSl, conL, seqL, stL, srcV, srcE, srcR1, srcR2, R.bind_ok, bindS_ok, List.getElem?_cons_zero, List.getElem?_cons_succ, List.length_cons, List.length_nil, Nat.zero_add, List.set_cons_zero, List.set_cons_succ, Option.bind_some, if_true, if_false, Bool.false_eq_true, reduceIte, opSub, opAdd, Hx.opI, opGt, opLt, opGe, opLe, opDiv, opMod, opNeg, opIsN, opNotN, biAbs, biInt, biMax, biMin, bi2, biLen, biTuple, wipeE, bYes, List.map_cons, List.map_nil, List.replicate, List.cons_append, List.nil_append]⟩) (by simp; omega), List.filter_eq_self.mpr (fun _ _ => rfl)]
    rfl
  have hrev : (ns.map fun x => D.int (if x < 0 then -x else x)).reverse = (ns.map fun x => if x < 0 then -x else x).reverse.map .int := by
    rw [← List.map_reverse, ← List.map_reverse, List.map_map]
    rfl
  have hmg : ∀ a b c d : D, mg [] [((.inr "cells" : L2.Key), a), (.inr "left", b), (.inr "mixed", c), (.inr "turn", d)] = [(.inr "cells", a), (.inr "left", b), (.inr "mixed", c), (.inr "turn", d)] := fun a b c d => by
    have h1 : decide ((Sum.inr "cells" : L2.Key) = .inr "left") = false := by decide
    have h2 : decide ((Sum.inr "cells" : L2.Key) = .inr "mixed") = false := by decide
    have h3 : decide ((Sum.inr "cells" : L2.Key) = .inr "turn") = false := by decide
    have h4 : decide ((Sum.inr "left" : L2.Key) = .inr "mixed") = false := by decide
    have h5 : decide ((Sum.inr "left" : L2.Key) = .inr "turn") = false := by decide
    have h6 : decide ((Sum.inr "mixed" : L2.Key) = .inr "turn") = false := by decide
    simp only [mg, pt, List.foldl_cons, List.foldl_nil, List.any_nil, List.any_cons, h1, h2, h3, h4, h5, h6, Bool.or_false, Bool.false_eq_true, if_false, List.nil_append, List.cons_append]
  unfold F__law_source defF u__law_source
  simp only [List.length_singleton, if_true, List.map_cons, List.map_nil, List.replicate, List.cons_append, List.nil_append]
  rw [sSeq_nx (show sSet 1 (eC (.int 11)) [some (.scr ns), none, none] [] = .nx [some (.scr ns), some (.int 11), none] [] from rfl)]
  rw [sSeq_nx (env' := [some (.scr ns), some (.int m), i]) (S' := []) (by
    unfold sFor
    simp only [srcV, eVar, List.getElem?_cons_zero, R.bind_ok, stL, bindS_ok]
    exact e)]
  have hcell : (eLc FZ (srcV (eVar 0)) (gN 2) [2] bYes (eCB biAbs (aCons (eVar 2) aNil))) [some (.scr ns), some (.int m), i] [.dK []] = .ok (.lst (ns.map fun x => .int (if x < 0 then -x else x))) [.dK []] := by
    unfold eLc
    simp only [srcV, eVar, List.getElem?_cons_zero, R.bind_ok, stL, bindS_ok, wipeE, List.set_cons_zero, List.set_cons_succ]
    rw [hlc]
    rfl
  have hdisp : eDisp [(eC (.str "cells"), eBack BX (eLc FZ (srcV (eVar 0)) (gN 2) [2] bYes (eCB biAbs (aCons (eVar 2) aNil)))), (eC (.str "left"), eC (.int 1)), (eC (.str "mixed"), eVar 1), (eC (.str "turn"), eC (.int 0))] [some (.scr ns), some (.int m), i] [] =
      .ok (.obj 0) [.dK [(.inr "cells", .obj 1), (.inr "left", .int 1), (.inr "mixed", .int m), (.inr "turn", .int 0)], .lst ((ns.map fun x => if x < 0 then -x else x).reverse.map .int)] := by
    unfold eDisp
    simp only [pairsE, List.nil_append, eC, R.bind_ok, eBack, hcell, conL, hrev, BX, eVar, List.getElem?_cons_succ, List.getElem?_cons_zero, pairsK, keyK, List.length_cons, List.length_nil, List.cons_append, List.set_cons_zero, hmg]
    rfl
  simp only [sSeq, sRet, hdisp, bindS_ok]
/-- the source's dict -/
def srcD (l m t : Int) : D := .dK [(.inr "cells", .obj 1), (.inr "left", .int l), (.inr "mixed", .int m), (.inr "turn", .int t)]
theorem ne_keys : decide ((Sum.inr "cells" : L2.Key) = .inr "left") = false ∧ decide ((Sum.inr "cells" : L2.Key) = .inr "mixed") = false ∧ decide ((Sum.inr "cells" : L2.Key) = .inr "turn") = false ∧ decide ((Sum.inr "left" : L2.Key) = .inr "mixed") = false ∧ decide ((Sum.inr "left" : L2.Key) = .inr "turn") = false ∧ decide ((Sum.inr "mixed" : L2.Key) = .inr "turn") = false := by
  refine ⟨?_, ?_, ?_, ?_, ?_, ?_⟩ <;> decide
theorem get_cells (l m t : Int) (c : List Int) (rest : Store) : opDGet (.obj 0) (.str "cells") (srcD l m t :: .lst (c.map .int) :: rest) = .ok (.obj 1) (srcD l m t :: .lst (c.map .int) :: rest) := rfl
theorem put_left (l m t : Int) (c : List Int) (rest : Store) (v : Int) : putD (srcD l m t :: .lst (c.map .int) :: rest) (.obj 0) (.str "left") (.int v) = some (0, srcD v m t) := by
  rfl
theorem put_turn (l m t : Int) (c : List Int) (rest : Store) (v : Int) : putD (srcD l m t :: .lst (c.map .int) :: rest) (.obj 0) (.str "turn") (.int v) = some (0, srcD l m v) := by
  rfl
theorem put_mixed (l m t : Int) (c : List Int) (rest : Store) (v : Int) : putD (srcD l m t :: .lst (c.map .int) :: rest) (.obj 0) (.str "mixed") (.int v) = some (0, srcD l v t) := by
  rfl
end K48
set_option Elab.async false
set_option linter.all false
set_option maxRecDepth 100000
set_option maxHeartbeats 1000000
namespace K48
open PySem PySem.Spec PyProof.Rows L2 Hx
def pickC : SB := (bAnd (bVal (e2 opGt (eVar 1) (eC (.int 1)))) (bAnd (bVal (e2 opLt (eDGet (eVar 0) (eC (.str "left"))) (eC (.int 2)))) (bVal (e2 opGt (eCB (biLen) (aCons (eDGet (eVar 0) (eC (.str "cells"))) aNil)) (eC (.int 0))))))
def pickB : SS := (sSeq (sDPut (eVar 0) (eC (.str "left")) (eMt0 ckL mtPop (eDGet (eVar 0) (eC (.str "cells"))))) sNil)
def pickR : SS := (sSeq (sSet 2 (eDGet (eVar 0) (eC (.str "left"))))
    (sSeq (sIf (bOr (bVal (e2 opLt (eVar 1) (eC (.int 2)))) (bVal (e2 opGt (eVar 2) (eC (.int 1))))) (sSeq (sDPut (eVar 0) (eC (.str "left")) (e2 (opDiv) (eVar 2) (eCB (biMax) (aCons (eC (.int 1)) (aCons (eVar 1) aNil)))))
    (sSeq (sRet (e2 (opMod) (eCB (biInt) (aCons (eVar 2) aNil)) (eCB (biMax) (aCons (eC (.int 1)) (aCons (eVar 1) aNil)))))
    sNil)) sNil)
    (sSeq (sDPut (eVar 0) (eC (.str "turn")) (e2 (opAdd FZ) (eDGet (eVar 0) (eC (.str "turn"))) (eC (.int 1))))
    (sSeq (sSet 3 (e2 (opMod) (eCB (biInt) (aCons (e2 (opAdd FZ) (eDGet (eVar 0) (eC (.str "mixed"))) (e2 (opMulX FZ) (eDGet (eVar 0) (eC (.str "turn"))) (eC (.int 104729)))) aNil)) (eC (.int 998244353))))
    (sSeq (sSet 3 (e2 (opMod) (eCB (biInt) (aCons (e2 (opAdd FZ) (e2 (opMulX FZ) (eVar 3) (eVar 3)) (e2 (opMulX FZ) (eDGet (eVar 0) (eC (.str "turn"))) (eC (.int 17)))) aNil)) (eC (.int 2147483647))))
    (sSeq (sDPut (eVar 0) (eC (.str "mixed")) (eVar 3))
    (sSeq (sRet (e2 (opMod) (eCB (biInt) (aCons (e2 (opDiv) (eVar 3) (eC (.int 16))) aNil)) (eVar 1)))
    sNil)))))))
theorem pick_eq : u__law_pick = sSeq (sWhile pickC pickB) pickR := rfl
section
variable (rest : Store)
/-- the store with the source -/
abbrev sS (l m t : Int) (c : List Int) : Store := srcD l m t :: .lst (c.map .int) :: rest
theorem pickB_turn (many l m t : Int) (c : List Int) (x : Int) (a b : Option D) : pickB [some (.obj 0), some (.int many), a, b] (sS rest l m t (c ++ [x])) = .nx [some (.obj 0), some (.int many), a, b] (sS rest x m t c) := by
  have hp : mtPop (.obj 1) [] (sS rest l m t (c ++ [x])) = .ok (.int x) (sS rest l m t c) := by
    have e1 : ((c ++ [x]).map D.int)[((c ++ [x]).map D.int).length - 1]? = some (.int x) := by simp
    have e2 : ((c ++ [x]).map D.int).dropLast = c.map D.int := by simp
    unfold mtPop onL
    simp only [List.getElem?_cons_succ, List.getElem?_cons_zero, e1, e2, List.set_cons_succ, List.set_cons_zero]
  unfold pickB Hx.sDPut
  simp only [sSeq, sNil, eMt0, eVar, List.getElem?_cons_zero, R.bind_ok, eC, eDGet, Hx.e2, get_cells, bindS_ok]
  have ck : ckL (sS rest l m t (c ++ [x])) (.obj 1) = true := rfl
  simp only [ck, if_true, hp, bindS_ok, put_left]
  rfl
theorem pick_loop (many l m t : Int) (c : List Int) (a b : Option D) (hc : c.length ≤ 100) : ∃ l' c', c'.length ≤ 100 ∧ sWhile pickC pickB [some (.obj 0), some (.int many), a, b] (sS rest l m t c) = .nx [some (.obj 0), some (.int many), a, b] (sS rest l' m t c') := by
  obtain ⟨env', S', e, l', c', h1, rfl, rfl⟩ := whileL_go (c := pickC) (u := pickB) (fun k env S => ∃ l c, c.length = k ∧ k ≤ 100 ∧ env = [some (.obj 0), some (.int many), a, b] ∧ S = sS rest l m t c)
    (fun env S => ∃ l c, c.length ≤ 100 ∧ env = [some (.obj 0), some (.int many), a, b] ∧ S = sS rest l m t c) (fun k env S hR => by
      obtain ⟨l, c, rfl, hk, rfl, rfl⟩ := hR
      have hb : ∃ v, pickC [some (.obj 0), some (.int many), a, b] (sS rest l m t c) = .ok v (sS rest l m t c) ∧ (v = true → c ≠ []) := by
        unfold pickC
        simp only [eVar, eC, e1, e2, eCB, aNil, aCons, eTup, sNil, sSeq, sAsg, sSet, sExpr, sRet, sRetN, sIf, sPass, sBreak, sCont, bVal, bAnd, bOr, bNot, eIf, eAnd, eOr, sPar, sPar3, sAug, eLst, eBack, eSl, eLc, FZ, BX, gN, gT, gAll, oNone, oSome, opSl, conL, seqL, stL, srcV, srcE, srcR1, srcR2, R.bind_ok, bindS_ok, List.getElem?_cons_zero, List.getElem?_cons_succ, List.length_cons, List.length_nil, Nat.zero_add, List.set_cons_zero, List.set_cons_succ, Option.bind_some, if_true, if_false, Bool.false_eq_true, reduceIte, opSub, opAdd, Hx.opI, opGt, opLt, opGe, opLe, opDiv, opMod, opNeg, opIsN, opNotN, biAbs, biInt, biMax, biMin, bi2, biLen, biTuple, wipeE, bYes, List.map_cons, List.map_nil, List.replicate, List.cons_append, List.nil_append]
        by_cases h1 : (1 : Int) < many
        · have g1 : (eDGet (eVar 0) (eC (.str "left"))) [some (.obj 0), some (.int many), a, b] (sS rest l m t c) = .ok (.int l) (sS rest l m t c) := rfl
          have g2 : (eDGet (eVar 0) (eC (.str "cells"))) [some (.obj 0), some (.int many), a, b] (sS rest l m t c) = .ok (.obj 1) (sS rest l m t c) := rfl
          have hl : biLen [.obj 1] (sS rest l m t c) = .ok (.int ((c.map D.int).length : Nat)) (sS rest l m t c) := rfl
          simp only [h1, decide_true, if_true, g1, R.bind_ok]
          by_cases h2 : l < 2
          · simp only [h2, decide_true, if_true, R.bind_ok, g2, hl, List.length_map]
            refine ⟨decide ((0 : Int) < (c.length : Nat)), rfl, fun z e => ?_⟩
            rw [e] at z
            exact absurd z (by decide)
          · simp only [h2, decide_false, if_false, Bool.false_eq_true, R.bind_ok]
            exact ⟨false, rfl, fun z => by cases z⟩
        · simp only [h1, decide_false, if_false, Bool.false_eq_true]
          exact ⟨false, rfl, fun z => by cases z⟩
      obtain ⟨v, hv, hne⟩ := hb
      cases v with
      | false => exact .inl ⟨hv, l, c, hk, rfl, rfl⟩
      | true =>
        obtain ⟨c0, x, rfl⟩ : ∃ c0 x, c = c0 ++ [x] := ⟨c.dropLast, c.getLast (hne rfl), (List.dropLast_concat_getLast (hne rfl)).symm⟩
        exact .inr ⟨_, _, _, c0.length, hv, .inl (pickB_turn rest many l m t c0 x a b), by simp, x, c0, rfl, by simp at hk; omega, rfl, rfl⟩) turns c.length _ _ (by unfold turns; omega) ⟨l, c, rfl, hc, rfl, rfl⟩
  exact ⟨l', c', h1, e⟩
theorem div_ok (a k : Int) (S : Store) (h : 0 < k) (h2 : k < 1000000) : opDiv (.int a) (.int k) S = .ok (.int (a.fdiv k)) S := by
  have : (decide (k ≠ 0 ∧ k.natAbs < 1073741824)) = true := decide_eq_true ⟨by omega, by omega⟩
  unfold opDiv Hx.opI
  dsimp only
  rw [if_pos this]
theorem mod_ok (a k : Int) (S : Store) (h : 0 < k) : opMod (.int a) (.int k) S = .ok (.int (a.fmod k)) S := by
  have : (decide (k ≠ 0)) = true := decide_eq_true (by omega)
  unfold opMod Hx.opI
  dsimp only
  rw [if_pos this]
theorem add_ok (a b : Int) (S : Store) : opAdd FZ (.int a) (.int b) S = .ok (.int (a + b)) S := rfl
theorem fmod_bd (a k : Int) (h : 0 < k) : 0 ≤ a.fmod k ∧ a.fmod k < k := ⟨Int.fmod_nonneg_of_pos a h, Int.fmod_lt_of_pos a h⟩
theorem dput_src {h : SE} {r : Ev} {S S' : Store} {x : Int} {k : Str} {d' : D} (e : h (some (.obj 0) :: r) S = .ok (.int x) S') (p : putD S' (.obj 0) (.str k) (.int x) = some (0, d')) : Hx.sDPut (eVar 0) (eC (.str k)) h (some (.obj 0) :: r) S = .nx (some (.obj 0) :: r) (S'.set 0 d') := by
  unfold Hx.sDPut
  rw [e]
  simp only [bindS_ok, eVar, List.getElem?_cons_zero, eC, p]
theorem pickR_ok (many l m t : Int) (c : List Int) (hm : many < 1000000) : ∃ r l' m' t', pickR [some (.obj 0), some (.int many), none, none] (sS rest l m t c) = .rt (.int r) (sS rest l' m' t' c) ∧ 0 ≤ r ∧ (r < many ∨ r = 0) := by
  unfold pickR
  rw [sSeq_nx (show sSet 2 (eDGet (eVar 0) (eC (.str "left"))) [some (.obj 0), some (.int many), none, none] (sS rest l m t c) = .nx [some (.obj 0), some (.int many), some (.int l), none] (sS rest l m t c) from rfl)]
  have hmax : ∀ (o : Option D) (S : Store), (eCB (biMax) (aCons (eC (.int 1)) (aCons (eVar 1) aNil))) [some (.obj 0), some (.int many), some (.int l), o] S = .ok (.int (if many > 1 then many else 1)) S := fun o S => rfl
  have pos : 0 < (if many > 1 then many else 1) ∧ (if many > 1 then many else 1) < 1000000 := by
    by_cases q : many > 1
    · rw [if_pos q]; omega
    · rw [if_neg q]; omega
  by_cases hA : many < 2 ∨ 1 < l
  · refine ⟨l.fmod (if many > 1 then many else 1), l.fdiv (if many > 1 then many else 1), m, t, ?_, (fmod_bd _ _ pos.1).1, ?_⟩
    · have hc : (bOr (bVal (e2 opLt (eVar 1) (eC (.int 2)))) (bVal (e2 opGt (eVar 2) (eC (.int 1))))) [some (.obj 0), some (.int many), some (.int l), none] (sS rest l m t c) = .ok true (sS rest l m t c) := by
        simp only [eVar, eC, e1, e2, eCB, aNil, aCons, eTup, sNil, sSeq, sAsg, sSet, sExpr, sRet, sRetN, sIf, sPass, sBreak, sCont, bVal, bAnd, bOr, bNot, eIf, eAnd, eOr, sPar, sPar3, sAug, eLst, eBack, eSl, eLc, FZ, BX, gN, gT, gAll, oNone, oSome, opSl, conL, seqL, stL, srcV, srcE, srcR1, srcR2, R.bind_ok, bindS_ok, List.getElem?_cons_zero, List.getElem?_cons_succ, List.length_cons, List.length_nil, Nat.zero_add, List.set_cons_zero, List.set_cons_succ, Option.bind_some, if_true, if_false, Bool.false_eq_true, reduceIte, opSub, opAdd, Hx.opI, opGt, opLt, opGe, opLe, opDiv, opMod, opNeg, opIsN, opNotN, biAbs, biInt, biMax, biMin, bi2, biLen, biTuple, wipeE, bYes, List.map_cons, List.map_nil, List.replicate, List.cons_append, List.nil_append]
        by_cases q : many < 2
        · simp only [q, decide_true, if_true]
        · have q2 : 1 < l := hA.resolve_left q
          simp only [q, q2, decide_true, decide_false, if_false, Bool.false_eq_true]
      have hd : (e2 (opDiv) (eVar 2) (eCB (biMax) (aCons (eC (.int 1)) (aCons (eVar 1) aNil)))) [some (.obj 0), some (.int many), some (.int l), none] (sS rest l m t c) = .ok (.int (l.fdiv (if many > 1 then many else 1))) (sS rest l m t c) := div_ok _ _ _ pos.1 pos.2
      have hmo : ∀ S, (e2 (opMod) (eCB (biInt) (aCons (eVar 2) aNil)) (eCB (biMax) (aCons (eC (.int 1)) (aCons (eVar 1) aNil)))) [some (.obj 0), some (.int many), some (.int l), none] S = .ok (.int (l.fmod (if many > 1 then many else 1))) S := fun S => mod_ok _ _ _ pos.1
      have hin : (sSeq (Hx.sDPut (eVar 0) (eC (.str "left")) (e2 (opDiv) (eVar 2) (eCB (biMax) (aCons (eC (.int 1)) (aCons (eVar 1) aNil)))))
    (sSeq (sRet (e2 (opMod) (eCB (biInt) (aCons (eVar 2) aNil)) (eCB (biMax) (aCons (eC (.int 1)) (aCons (eVar 1) aNil))))) sNil)) [some (.obj 0), some (.int many), some (.int l), none] (sS rest l m t c) = .rt (.int (l.fmod (if many > 1 then many else 1))) (sS rest (l.fdiv (if many > 1 then many else 1)) m t c) := by
        rw [sSeq_nx (dput_src hd (put_left l m t c rest _))]
        simp only [sSeq, sRet, hmo, bindS_ok]
        rfl
      rw [sSeq, sIf, hc]
      simp only [bindS_ok, if_true, hin]
    · by_cases q : many > 1
      · rw [if_pos q]; exact .inl (fmod_bd _ _ (by omega)).2
      · rw [if_neg q]; exact .inr (by have := fmod_bd l 1 (by decide); omega)
  · have n1 : ¬ many < 2 := fun z => hA (.inl z)
    have n2 : ¬ 1 < l := fun z => hA (.inr z)
    have hc : (bOr (bVal (e2 opLt (eVar 1) (eC (.int 2)))) (bVal (e2 opGt (eVar 2) (eC (.int 1))))) [some (.obj 0), some (.int many), some (.int l), none] (sS rest l m t c) = .ok false (sS rest l m t c) := by
      simp only [eVar, eC, e1, e2, eCB, aNil, aCons, eTup, sNil, sSeq, sAsg, sSet, sExpr, sRet, sRetN, sIf, sPass, sBreak, sCont, bVal, bAnd, bOr, bNot, eIf, eAnd, eOr, sPar, sPar3, sAug, eLst, eBack, eSl, eLc, FZ, BX, gN, gT, gAll, oNone, oSome, opSl, conL, seqL, stL, srcV, srcE, srcR1, srcR2, R.bind_ok, bindS_ok, List.getElem?_cons_zero, List.getElem?_cons_succ, List.length_cons, List.length_nil, Nat.zero_add, List.set_cons_zero, List.set_cons_succ, Option.bind_some, if_true, if_false, Bool.false_eq_true, reduceIte, opSub, opAdd, Hx.opI, opGt, opLt, opGe, opLe, opDiv, opMod, opNeg, opIsN, opNotN, biAbs, biInt, biMax, biMin, bi2, biLen, biTuple, wipeE, bYes, List.map_cons, List.map_nil, List.replicate, List.cons_append, List.nil_append]
      simp only [n1, n2, decide_false, if_false, Bool.false_eq_true]
    have hif : ∀ f, sIf (bOr (bVal (e2 opLt (eVar 1) (eC (.int 2)))) (bVal (e2 opGt (eVar 2) (eC (.int 1))))) f sNil [some (.obj 0), some (.int many), some (.int l), none] (sS rest l m t c) = .nx [some (.obj 0), some (.int many), some (.int l), none] (sS rest l m t c) := fun f => by
      rw [sIf, hc]
      rfl
    rw [sSeq_nx (hif _)]
    rw [sSeq_nx (dput_src (x := t + 1) (S' := sS rest l m t c) rfl (put_turn l m t c rest _))]
    have s1 : (List.set (sS rest l m t c) 0 (srcD l m (t + 1))) = sS rest l m (t + 1) c := rfl
    rw [s1]
    have hm1 : sSet 3 (e2 (opMod) (eCB (biInt) (aCons (e2 (opAdd FZ) (eDGet (eVar 0) (eC (.str "mixed"))) (e2 (opMulX FZ) (eDGet (eVar 0) (eC (.str "turn"))) (eC (.int 104729)))) aNil)) (eC (.int 998244353))) [some (.obj 0), some (.int many), some (.int l), none] (sS rest l m (t + 1) c) =
        .nx [some (.obj 0), some (.int many), some (.int l), some (.int ((m + (t + 1) * 104729).fmod 998244353))] (sS rest l m (t + 1) c) := by
      have g1 : (eDGet (eVar 0) (eC (.str "mixed"))) [some (.obj 0), some (.int many), some (.int l), none] (sS rest l m (t + 1) c) = .ok (.int m) (sS rest l m (t + 1) c) := rfl
      have g2 : (eDGet (eVar 0) (eC (.str "turn"))) [some (.obj 0), some (.int many), some (.int l), none] (sS rest l m (t + 1) c) = .ok (.int (t + 1)) (sS rest l m (t + 1) c) := rfl
      simp only [sSet, sAsg, Hx.e2, eCB, aCons, aNil, g1, g2, R.bind_ok, eC, mul_small _ 104729 _ (by decide), add_ok, biInt, mod_ok _ 998244353 _ (by decide), bindS_ok, gN, List.set_cons_succ, List.set_cons_zero]
    rw [sSeq_nx hm1]
    have bd := fmod_bd (m + (t + 1) * 104729) 998244353 (by decide)
    generalize (m + (t + 1) * 104729).fmod 998244353 = x at bd
    have hm2 : sSet 3 (e2 (opMod) (eCB (biInt) (aCons (e2 (opAdd FZ) (e2 (opMulX FZ) (eVar 3) (eVar 3)) (e2 (opMulX FZ) (eDGet (eVar 0) (eC (.str "turn"))) (eC (.int 17)))) aNil)) (eC (.int 2147483647))) [some (.obj 0), some (.int many), some (.int l), some (.int x)] (sS rest l m (t + 1) c) =
        .nx [some (.obj 0), some (.int many), some (.int l), some (.int ((x * x + (t + 1) * 17).fmod 2147483647))] (sS rest l m (t + 1) c) := by
      have g2 : (eDGet (eVar 0) (eC (.str "turn"))) [some (.obj 0), some (.int many), some (.int l), some (.int x)] (sS rest l m (t + 1) c) = .ok (.int (t + 1)) (sS rest l m (t + 1) c) := rfl
      have g3 : (eVar 3) [some (.obj 0), some (.int many), some (.int l), some (.int x)] (sS rest l m (t + 1) c) = .ok (.int x) (sS rest l m (t + 1) c) := rfl
      have sm : Hx.small64 x = true := by
        unfold Hx.small64
        exact decide_eq_true ⟨by omega, by omega⟩
      simp only [sSet, sAsg, Hx.e2, eCB, aCons, aNil, g2, g3, R.bind_ok, eC, mul_small _ 17 _ (by decide), mul_small _ _ _ sm, add_ok, biInt, mod_ok _ 2147483647 _ (by decide), bindS_ok, gN, List.set_cons_succ, List.set_cons_zero]
    rw [sSeq_nx hm2]
    generalize (x * x + (t + 1) * 17).fmod 2147483647 = y
    rw [sSeq_nx (dput_src (x := y) (S' := sS rest l m (t + 1) c) rfl (put_mixed l m (t + 1) c rest _))]
    have s2 : (List.set (sS rest l m (t + 1) c) 0 (srcD l y (t + 1))) = sS rest l y (t + 1) c := rfl
    rw [s2]
    refine ⟨(y.fdiv 16).fmod many, l, y, t + 1, ?_, (fmod_bd _ _ (by omega)).1, .inl (fmod_bd _ _ (by omega)).2⟩
    have hr : (e2 (opMod) (eCB (biInt) (aCons (e2 (opDiv) (eVar 3) (eC (.int 16))) aNil)) (eVar 1)) [some (.obj 0), some (.int many), some (.int l), some (.int y)] (sS rest l y (t + 1) c) = .ok (.int ((y.fdiv 16).fmod many)) (sS rest l y (t + 1) c) := by
      have g3 : (eVar 3) [some (.obj 0), some (.int many), some (.int l), some (.int y)] (sS rest l y (t + 1) c) = .ok (.int y) (sS rest l y (t + 1) c) := rfl
      have g1 : (eVar 1) [some (.obj 0), some (.int many), some (.int l), some (.int y)] (sS rest l y (t + 1) c) = .ok (.int many) (sS rest l y (t + 1) c) := rfl
      simp only [Hx.e2, eCB, aCons, aNil, g1, g3, R.bind_ok, eC, div_ok _ 16 _ (by decide) (by decide), biInt, mod_ok _ many _ (by omega)]
    simp only [sSeq, sRet, hr, bindS_ok]
theorem lst_pure (c : List Int) : (D.lst (c.map .int)).pure = true := by
  rw [D.pure]
  exact pureL_ints c
theorem okS_refl (m : Nat) (S : Store) : okS m S S = true := by
  have := okS_self m S []
  rwa [List.append_nil] at this
theorem okS_src (l m t l' m' t' : Int) (c c' : List Int) : okS (sS rest l m t c).length (sS rest l m t c) (sS rest l' m' t' c') = true := by
  have h0 : (D.sub (fun i => if i < (sS rest l m t c).length then some (.obj i) else none) (srcD l' m' t')) = some (srcD l' m' t') := by
    have : 1 < (sS rest l m t c).length := by simp [sS]
    simp [srcD, D.sub, D.subK, this]
  have h1 : (D.sub (fun i => if i < (sS rest l m t c).length then some (.obj i) else none) (.lst (c'.map .int))) = some (.lst (c'.map .int)) := D.sub_pure _ _ (lst_pure c')
  unfold sS at h0 h1 ⊢
  simp only [okS, h0, h1, decide_true, Bool.or_true, Bool.true_and, okS_refl]
/-- a source, whatever it has come to -/
def SrcS (rest S : Store) : Prop := ∃ l m t c, c.length ≤ 100 ∧ S = sS rest l m t c
theorem pick_law (many : Int) (S : Store) (hS : SrcS rest S) (hm : many < 1000000) : ∃ r S', SrcS rest S' ∧ F__law_pick [.obj 0, .int many] S = .ok (.int r) S' ∧ 0 ≤ r ∧ (r < many ∨ r = 0) := by
  obtain ⟨l, m, t, c, hc, rfl⟩ := hS
  obtain ⟨l1, c1, hc1, e1⟩ := pick_loop rest many l m t c none none hc
  obtain ⟨r, l2, m2, t2, e2, h1, h2⟩ := pickR_ok rest many l1 m t c1 hm
  refine ⟨r, sS rest l2 m2 t2 c1, ⟨l2, m2, t2, c1, hc1, rfl⟩, ?_, h1, h2⟩
  have e : defF 2 4 u__law_pick [.obj 0, .int many] (sS rest l m t c) = .ok (.int r) (sS rest l2 m2 t2 c1) := by
    unfold defF
    simp only [List.length_cons, List.length_nil, if_true, List.map_cons, List.map_nil, List.replicate, List.cons_append, List.nil_append]
    rw [pick_eq, sSeq_nx e1, e2]
  unfold F__law_pick cutF
  rw [e]
  unfold cutR
  dsimp only
  rw [if_pos (okS_src rest l m t l2 m2 t2 c c1), frz_pure rfl]
  dsimp only
  have hl : (sS rest l m t c).length = (sS rest l2 m2 t2 c1).length := by simp [sS]
  rw [hl, List.take_length]
end
end K48
set_option Elab.async false
set_option linter.all false
set_option maxRecDepth 100000
set_option maxHeartbeats 1000000
namespace K48
open PySem PySem.Spec PyProof.Rows L2 Hx
section
variable {rest : Store}
theorem SrcS.len {S : Store} (h : SrcS rest S) : S.length = rest.length + 2 := by
  obtain ⟨l, m, t, c, _, rfl⟩ := h
  simp [sS]
theorem cut_src {S S' : Store} {d : D} (h : SrcS rest S) (h' : SrcS rest S') (hd : d.pure = true) : cutR S (.ok d S') = .ok d S' := by
  have hl : S.length = S'.length := by rw [h.len, h'.len]
  obtain ⟨l, m, t, c, _, rfl⟩ := h
  obtain ⟨l', m', t', c', _, rfl⟩ := h'
  unfold cutR
  dsimp only
  rw [if_pos (okS_src rest l m t l' m' t' c c'), frz_pure hd]
  dsimp only
  rw [hl, List.take_length]
/-- one of several -/
theorem of_law {d : D} {ds : List D} (S : Store) (hS : SrcS rest S) (hd : ∀ S', SrcS rest S' → seqL S' d = some ds) (hn : ds ≠ []) (hp : ∀ x ∈ ds, x.pure = true) (hl : ds.length < 1000000) : ∃ x S', SrcS rest S' ∧ x ∈ ds ∧ F__law_of [.obj 0, d] S = .ok x S' := by
  obtain ⟨r, S', h1, e1, h2, h3⟩ := pick_law rest (ds.length : Nat) S hS (by omega)
  have hpos : 0 < ds.length := List.length_pos_iff.mpr hn
  obtain ⟨j, rfl⟩ : ∃ j : Nat, r = (j : Int) := ⟨r.toNat, by omega⟩
  have hj : j < ds.length := by omega
  have e2 := opIx_nat (x := d) (S := S') (j := j) (hd S' h1) (List.getElem?_eq_getElem hj)
  refine ⟨ds[j], S', h1, List.getElem_mem hj, ?_⟩
  have e : defF 2 2 u__law_of [.obj 0, d] S = .ok ds[j] S' := by
    unfold defF
    simp only [List.length_cons, List.length_nil, if_true, List.map_cons, List.map_nil]
    rw [show [some (D.obj 0), some d] ++ List.replicate (2 - 2) none = [some (D.obj 0), some d] from rfl]
    unfold u__law_of
    have hb : (eCB F__law_pick (aCons (eVar 0) (aCons (eCB (biLen) (aCons (eVar 1) aNil)) aNil))) [some (.obj 0), some d] S = .ok (.int (j : Int)) S' := by
      simp only [eCB, aCons, aNil, eVar, List.getElem?_cons_succ, List.getElem?_cons_zero, R.bind_ok, biLen_seq (hd S hS), e1]
    simp only [sSeq, sRet, Hx.e2, hb, eVar, List.getElem?_cons_succ, List.getElem?_cons_zero, R.bind_ok, e2, bindS_ok]
  unfold F__law_of cutF
  rw [e]
  exact cut_src hS h1 (hp _ (List.getElem_mem hj))
/-- comprehensions that draw on a store -/
theorem lcL_go {N : Nat} (hN : N ≤ sizeLine) {α : Type} {enc : α → D} {g : SG} {c : SB} {el : SE} {env : Ev} (I : List D → Store → Prop) : ∀ (as : List α) (acc : List D) (S : Store), I acc S →
    (∀ a ∈ as, ∀ acc S, acc.length < N → I acc S → ∃ env1 y S', g (enc a) env = some env1 ∧ c env1 S = .ok true S ∧ el env1 S = .ok y S' ∧ I (acc ++ [y]) S') → acc.length + as.length ≤ N →
    ∃ out S', lcL g c el env (as.map enc) acc S = .ok out S' ∧ I out S' ∧ out.length = acc.length + as.length
  | [], acc, S, h, _, _ => ⟨acc, S, by simp [lcL], h, by simp⟩
  | a :: r, acc, S, h, st, hl => by
    obtain ⟨env1, y, S', e1, e2, e3, h2⟩ := st a List.mem_cons_self acc S (by simp at hl; omega) h
    have hl' : acc.length + (r.length + 1) ≤ N := by simpa using hl
    obtain ⟨out, S2, e4, h3, h4⟩ := lcL_go hN I r (acc ++ [y]) S' h2 (fun b hb => st b (List.mem_cons_of_mem _ hb)) (by rw [List.length_append, List.length_singleton]; omega)
    refine ⟨out, S2, ?_, h3, by rw [h4, List.length_append, List.length_singleton, List.length_cons]; omega⟩
    rw [List.map_cons]
    unfold lcL
    rw [e1]
    dsimp only
    rw [e2]
    simp only [noX, R.bind_ok, if_true]
    rw [e3]
    simp only [noX, R.bind_ok]
    rw [if_pos (by omega)]
    exact e4
theorem okS_grown (l m t l' m' t' : Int) (c c' : List Int) (T : Store) : okS (sS rest l m t c).length (sS rest l m t c) (sS (rest ++ T) l' m' t' c') = true := by
  have h0 : (D.sub (fun i => if i < (sS rest l m t c).length then some (.obj i) else none) (srcD l' m' t')) = some (srcD l' m' t') := by
    have : 1 < (sS rest l m t c).length := by simp [sS]
    simp [srcD, D.sub, D.subK, this]
  have h1 : (D.sub (fun i => if i < (sS rest l m t c).length then some (.obj i) else none) (.lst (c'.map .int))) = some (.lst (c'.map .int)) := D.sub_pure _ _ (lst_pure c')
  unfold sS at h0 h1 ⊢
  simp only [okS, h0, h1, decide_true, Bool.or_true, Bool.true_and, okS_self]
theorem SrcS.grow {S : Store} (h : SrcS rest S) (T : Store) : SrcS (rest ++ T) (S ++ T) := by
  obtain ⟨l, m, t, c, hc, rfl⟩ := h
  exact ⟨l, m, t, c, hc, rfl⟩
theorem SrcS.at {S : Store} {x : D} (h : SrcS (rest ++ [x]) S) : S[rest.length + 2]? = some x := by
  obtain ⟨l, m, t, c, hc, rfl⟩ := h
  simp [sS]
theorem SrcS.put {S : Store} {x : D} (h : SrcS (rest ++ [x]) S) (y : D) : SrcS (rest ++ [y]) (S.set (rest.length + 2) y) := by
  obtain ⟨l, m, t, c, hc, rfl⟩ := h
  exact ⟨l, m, t, c, hc, by simp [sS]⟩
theorem cut_grown {S S' T : Store} {d : D} (h : SrcS rest S) (h' : SrcS (rest ++ T) S') (hd : d.pure = true) : ∃ S2, SrcS rest S2 ∧ cutR S (.ok d S') = .ok d S2 := by
  obtain ⟨l, m, t, c, _, rfl⟩ := h
  obtain ⟨l', m', t', c', hc, rfl⟩ := h'
  refine ⟨sS rest l' m' t' c', ⟨l', m', t', c', hc, rfl⟩, ?_⟩
  unfold cutR
  dsimp only
  rw [if_pos (okS_grown l m t l' m' t' c c' T), frz_pure hd]
  dsimp only
  have : (sS (rest ++ T) l' m' t' c').take (sS rest l m t c).length = sS rest l' m' t' c' := by
    have e : sS (rest ++ T) l' m' t' c' = sS rest l' m' t' c' ++ T := rfl
    have hl : (sS rest l m t c).length = (sS rest l' m' t' c').length := by simp [sS]
    rw [e, hl, List.take_left]
  rw [this]
theorem bounds63 (j : Nat) (h : j < 1000000) : -9223372036854775808 ≤ (j : Int) ∧ (j : Int) < 9223372036854775808 := ⟨by omega, by omega⟩
theorem seqIndex_nat {j n : Nat} (hj : j < n) : seqIndex? (j : Int) n = some j := by
  unfold seqIndex?
  have n0 : ¬ (j : Int) < 0 := by omega
  have n1 : (j : Int) < (n : Nat) := by omega
  have n2 : (0 : Int) ≤ j := by omega
  simp only [n0, if_false]
  simp [n1, n2]
theorem onL_at {S : Store} {i : Nat} {ds ds' : List D} {d : D} {k : List D → Option (D × List D)} (h : S[i]? = some (.lst ds)) (hk : k ds = some (d, ds')) : onL S (.obj i) k = .ok d (S.set i (.lst ds')) := by
  simp only [onL, h, hk]
theorem popAt_ok {S : Store} {i j : Nat} {ds : List D} (h : S[i]? = some (.lst ds)) (hj : j < ds.length) (hl : ds.length < 1000000) : mtPopAt (.obj i) [.int (j : Int)] S = .ok ds[j] (S.set i (.lst (ds.eraseIdx j))) := by
  unfold mtPopAt
  refine onL_at h ?_
  split
  · simp only [seqIndex_nat hj, List.getElem?_eq_getElem hj]
  · rename_i q
    exact absurd (bounds63 j (Nat.lt_trans hj hl)) q
theorem inR_nat (n : Nat) (h : n < 1000000) : Hx.inR (n : Int) = true := decide_eq_true ⟨by omega, by omega⟩
theorem range_ints0 (n : Nat) : rangeD 0 n = (List.range n).map fun k : Nat => D.int (k : Int) := by
  unfold rangeD
  simp only [Int.zero_add]
theorem srcR1_ok {f : SE} {env : Ev} {S S' : Store} {n : Nat} (h : f env S = .ok (.int (n : Int)) S') (hn : Hx.inR (n : Int) = true) : srcR1 f env S = .ok ((List.range n).map fun k : Nat => D.int (k : Int)) S' := by
  unfold srcR1
  rw [h, R.bind_ok]
  dsimp only
  split
  · rw [Int.toNat_natCast, range_ints0]
  · rename_i q
    exact absurd hn q
theorem erase_perm : ∀ {l : List D} {j : Nat} (hj : j < l.length), (l[j] :: l.eraseIdx j).Perm l
  | [], _, hj => absurd hj (Nat.not_lt_zero _)
  | a :: r, 0, _ => List.Perm.refl _
  | a :: r, j + 1, hj => by
    have hj' : j < r.length := by simpa using hj
    show (r[j] :: a :: r.eraseIdx j).Perm (a :: r)
    exact (List.Perm.swap a r[j] _).trans ((erase_perm hj').cons a)
theorem range_ints (n : Nat) : rangeD 0 n = (List.range n).map fun k : Nat => D.int (k : Int) := by
  unfold rangeD
  simp only [Int.zero_add]
/-- the things in another sequence -/
theorem mixed_law {d : D} {ds : List D} (S : Store) (hS : SrcS rest S) (hd : ∀ S', SrcS rest S' → seqL S' d = some ds) (hp : ∀ x ∈ ds, x.pure = true) (hpl : ∀ out : List D, (∀ x ∈ out, x.pure = true) → (D.lst out).pure = true) (hl : ds.length < 100000) :
    ∃ out S', SrcS rest S' ∧ out.Perm ds ∧ F__law_mixed [.obj 0, d] S = .ok (.lst out) S' := by
  have hline : (200000 : Nat) ≤ sizeLine := by decide
  have hS1 : SrcS (rest ++ [.lst ds]) (S ++ [.lst ds]) := hS.grow _
  obtain ⟨out, S2, e, ⟨left, hS2, hperm, hlen⟩, ho⟩ := lcL_go (N := ds.length) (by omega) (enc := fun k : Nat => D.int (k : Int)) (g := gN 3) (c := bYes) (el := eMt ckL mtPopAt (eVar 2) (aCons (eCB F__law_pick (aCons (eVar 0) (aCons (eCB (biLen) (aCons (eVar 2) aNil)) aNil))) aNil)) (env := [some (.obj 0), some d, some (.obj (rest.length + 2)), none])
    (fun acc S => ∃ left, SrcS (rest ++ [.lst left]) S ∧ (acc ++ left).Perm ds ∧ acc.length + left.length = ds.length) (List.range ds.length) [] (S ++ [.lst ds]) ⟨ds, hS1, List.Perm.refl _, by simp⟩ (fun a _ acc S1 ha hI => by
      obtain ⟨left, h1, h2, h3⟩ := hI
      obtain ⟨r, S3, g1, e1, g2, g3⟩ := pick_law (rest ++ [.lst left]) (left.length : Nat) S1 h1 (by omega)
      obtain ⟨j, rfl⟩ : ∃ j : Nat, r = (j : Int) := ⟨r.toNat, by omega⟩
      have hj : j < left.length := by omega
      have hat : S1[rest.length + 2]? = some (.lst left) := h1.at
      have hq : seqL S1 (.obj (rest.length + 2)) = some left := by
        simp only [seqL, conL, hat]
      have hck : ckL S1 (.obj (rest.length + 2)) = true := by
        simp only [ckL, conL, hat, Option.isSome]
      refine ⟨_, left[j], S3.set (rest.length + 2) (.lst (left.eraseIdx j)), rfl, rfl, ?_, left.eraseIdx j, g1.put _, ?_, ?_⟩
      · simp only [eMt, aCons, aNil, eCB, eVar, List.set_cons_succ, List.set_cons_zero, List.getElem?_cons_succ, List.getElem?_cons_zero, R.bind_ok, hck, if_true, biLen_seq hq, e1]
        exact popAt_ok g1.at hj (by omega)
      · refine List.Perm.trans ?_ h2
        rw [List.append_assoc]
        exact List.Perm.append_left _ (erase_perm hj)
      · rw [List.length_append, List.length_singleton, List.length_eraseIdx_of_lt hj]
        omega) (by simp)
  have hl0 : left = [] := by
    have : out.length = ds.length := by simpa using ho
    exact List.length_eq_zero_iff.mp (by omega)
  subst hl0
  rw [List.append_nil] at hperm
  have hpo : (D.lst out).pure = true := hpl out fun x hx => hp x (hperm.mem_iff.mp hx)
  obtain ⟨S4, h4, ec⟩ := cut_grown hS hS2 hpo
  refine ⟨out, S4, h4, hperm, ?_⟩
  have hat : (S ++ [D.lst ds])[rest.length + 2]? = some (.lst ds) := hS1.at
  have hq : seqL (S ++ [.lst ds]) (.obj (rest.length + 2)) = some ds := by
    simp only [seqL, conL, hat]
  have hin : Hx.inR ((ds.length : Nat) : Int) = true := inR_nat _ (Nat.lt_trans hl (by decide))
  have el1 : (eCB (biList BX) (aCons (eVar 1) aNil)) [some (.obj 0), some d, none, none] S = .ok (.obj (rest.length + 2)) (S ++ [.lst ds]) := by
    simp only [eCB, aCons, aNil, eVar, List.getElem?_cons_succ, List.getElem?_cons_zero, R.bind_ok, biList, hd S hS, BX, hS.len]
  have el2 : (eLc FZ (srcR1 (eCB (biLen) (aCons (eVar 2) aNil))) (gN 3) [3] bYes (eMt ckL mtPopAt (eVar 2) (aCons (eCB F__law_pick (aCons (eVar 0) (aCons (eCB (biLen) (aCons (eVar 2) aNil)) aNil))) aNil))) [some (.obj 0), some d, some (.obj (rest.length + 2)), none] (S ++ [.lst ds]) = .ok (.lst out) S2 := by
    unfold eLc
    have hs : srcR1 (eCB (biLen) (aCons (eVar 2) aNil)) [some (.obj 0), some d, some (.obj (rest.length + 2)), none] (S ++ [.lst ds]) = .ok ((List.range ds.length).map fun k : Nat => D.int (k : Int)) (S ++ [.lst ds]) := by
      have e7 : (eCB (biLen) (aCons (eVar 2) aNil)) [some (.obj 0), some d, some (.obj (rest.length + 2)), none] (S ++ [.lst ds]) = .ok (.int (ds.length : Nat)) (S ++ [.lst ds]) := by
        simp only [eCB, aCons, aNil, eVar, List.getElem?_cons_succ, List.getElem?_cons_zero, R.bind_ok, biLen_seq hq]
      exact srcR1_ok e7 hin
    simp only [hs, R.bind_ok, wipeE, List.set_cons_succ, List.set_cons_zero, e, FZ]
  have e5 : defF 2 4 u__law_mixed [.obj 0, d] S = .ok (.lst out) S2 := by
    unfold defF
    simp only [List.length_cons, List.length_nil, if_true, List.map_cons, List.map_nil]
    rw [show [some (D.obj 0), some d] ++ List.replicate (4 - 2) none = [some (D.obj 0), some d, none, none] from rfl]
    unfold u__law_mixed
    have e6 : sSet 2 (eCB (biList BX) (aCons (eVar 1) aNil)) [some (.obj 0), some d, none, none] S = .nx [some (.obj 0), some d, some (.obj (rest.length + 2)), none] (S ++ [.lst ds]) := by
      simp only [sSet, sAsg, el1, bindS_ok, gN, List.set_cons_succ, List.set_cons_zero]
    rw [sSeq_nx e6]
    simp only [sSeq, sRet, el2, bindS_ok]
  unfold F__law_mixed cutF
  rw [e5]
  exact ec
end
end K48
set_option Elab.async false
set_option linter.all false
set_option maxRecDepth 100000
set_option maxHeartbeats 1000000
namespace K48
open PySem PySem.Spec PyProof.Rows L2 Hx
open FG (E3 edge roseW rose places signs)
theorem line_big : (200000 : Nat) ≤ sizeLine := by decide
theorem addI (fin : D → Store → R D) (a b : Int) (S : Store) : opAdd fin (.int a) (.int b) S = .ok (.int (a + b)) S := rfl
theorem small_line {n : Nat} (h : n ≤ 200000) : n ≤ sizeLine := Nat.le_trans h line_big
theorem signs_len (l : List Nat) : ((l.flatMap fun a : Nat => [(a : Int) + 1, -((a : Int) + 1)]).map D.int).length = 2 * l.length := by
  rw [List.length_map]
  induction l with
  | nil => rfl
  | cons x r ih => rw [List.flatMap_cons, List.length_append, ih, List.length_cons, List.length_cons, List.length_cons, List.length_nil]; omega
theorem signs_law (acts : Nat) (ha : acts ≤ 1000) (S : Store) : F__law_signs [.int acts] S = .ok (.lst ((signs acts).map .int)) S := by
  refine fn_pure rfl ?_ (pure_lst (pure_map fun a _ => rfl))
  refine sq_nx (env' := [some (.int acts), some (.lst []), none]) (S' := S) rfl ?_
  refine sq_for (fun k : Nat => D.int (1 + (k : Int))) (List.range acts) (fun pre env S' => ∃ i, env = [some (.int acts), some (.lst ((pre.flatMap fun a : Nat => [(a : Int) + 1, -((a : Int) + 1)]).map .int)), i] ∧ S' = S)
    (srcR2_ok rfl rfl (inR_of _ (by omega)) (inR_of _ (by omega)) (by omega)) ⟨none, rfl, rfl⟩ (fun pre a post env S' e hR => ?_) (fun env' S' hR => ?_)
  · obtain ⟨i, rfl, rfl⟩ := hR
    have hl : pre.length < acts := by
      have := congrArg List.length e
      simp at this
      omega
    refine ⟨_, _, _, rfl, ?_, some (.int (1 + (a : Int))), rfl, rfl⟩
    simp only [eVar, eC, e1, e2, eCB, aNil, aCons, eTup, sNil, sSeq, sAsg, sSet, sExpr, sRet, sRetN, sIf, sPass, sBreak, sCont, bVal, bAnd, bOr, bNot, eIf, eAnd, eOr, sPar, sPar3, sAug, eLst, FZ, BX, gN, gT, gAll, oNone, oSome, conL, seqL, stL, bYes, R.bind_ok, bindS_ok, List.getElem?_cons_zero, List.getElem?_cons_succ, List.length_cons, List.length_nil, Nat.zero_add, List.set_cons_zero, List.set_cons_succ, Option.bind_some, if_true, if_false, Bool.false_eq_true, reduceIte, decide_true, decide_false, Bool.not_true, Bool.not_false, opSub, addI, Hx.opI, opGt, opLt, opGe, opLe, opDiv, opMod, opNeg, biAbs, biInt, biMax, biMin, bi2, biTuple, wipeE, List.map_cons, List.map_nil, List.replicate, List.cons_append, List.nil_append]
    rw [if_pos (small_line (by omega))]
    simp only [eVar, eC, e1, e2, eCB, aNil, aCons, eTup, sNil, sSeq, sAsg, sSet, sExpr, sRet, sRetN, sIf, sPass, sBreak, sCont, bVal, bAnd, bOr, bNot, eIf, eAnd, eOr, sPar, sPar3, sAug, eLst, FZ, BX, gN, gT, gAll, oNone, oSome, conL, seqL, stL, bYes, R.bind_ok, bindS_ok, List.getElem?_cons_zero, List.getElem?_cons_succ, List.length_cons, List.length_nil, Nat.zero_add, List.set_cons_zero, List.set_cons_succ, Option.bind_some, if_true, if_false, Bool.false_eq_true, reduceIte, decide_true, decide_false, Bool.not_true, Bool.not_false, opSub, addI, Hx.opI, opGt, opLt, opGe, opLe, opDiv, opMod, opNeg, biAbs, biInt, biMax, biMin, bi2, biTuple, wipeE, List.map_cons, List.map_nil, List.replicate, List.cons_append, List.nil_append]
    rw [add_lst _ _ _ (by rw [signs_len]; exact small_line (by simp only [List.length_cons, List.length_nil]; omega))]
    simp only [eVar, eC, e1, e2, eCB, aNil, aCons, eTup, sNil, sSeq, sAsg, sSet, sExpr, sRet, sRetN, sIf, sPass, sBreak, sCont, bVal, bAnd, bOr, bNot, eIf, eAnd, eOr, sPar, sPar3, sAug, eLst, FZ, BX, gN, gT, gAll, oNone, oSome, conL, seqL, stL, bYes, R.bind_ok, bindS_ok, List.getElem?_cons_zero, List.getElem?_cons_succ, List.length_cons, List.length_nil, Nat.zero_add, List.set_cons_zero, List.set_cons_succ, Option.bind_some, if_true, if_false, Bool.false_eq_true, reduceIte, decide_true, decide_false, Bool.not_true, Bool.not_false, opSub, addI, Hx.opI, opGt, opLt, opGe, opLe, opDiv, opMod, opNeg, biAbs, biInt, biMax, biMin, bi2, biTuple, wipeE, List.map_cons, List.map_nil, List.replicate, List.cons_append, List.nil_append]
    rw [List.flatMap_append, List.map_append, List.flatMap_singleton, Int.add_comm 1 (a : Int), Int.zero_sub]
    rfl
  · obtain ⟨i, rfl, rfl⟩ := hR
    rfl
theorem act_signs_ok (acts : Nat) (ha : acts ≤ 1000) (S : Store) : F_act_signs [.int acts] S = .ok (.lst ((signs acts).map .int)) S := by
  refine fn_cut (d := .obj S.length) (T := [.lst ((signs acts).map .int)]) rfl ?_ (frz_lst (get_new S _) (Nat.le_refl _) (pureL_ints _))
  refine sq_nx (env' := [some (.int acts), some (.obj S.length), none]) (S' := S ++ [.lst []]) rfl ?_
  refine sq_for (fun k : Nat => D.int (1 + (k : Int))) (List.range acts) (fun pre env S' => ∃ i, env = [some (.int acts), some (.obj S.length), i] ∧ S' = S ++ [.lst ((pre.flatMap fun a : Nat => [(a : Int) + 1, -((a : Int) + 1)]).map .int)])
    (srcR2_ok rfl rfl (inR_of _ (by omega)) (inR_of _ (by omega)) (by omega)) ⟨none, rfl, rfl⟩ (fun pre a post env S' e hR => ?_) (fun env' S' hR => ?_)
  · obtain ⟨i, rfl, rfl⟩ := hR
    have hl : pre.length < acts := by
      have := congrArg List.length e
      simp at this
      omega
    refine ⟨_, _, _, rfl, ?_, some (.int (1 + (a : Int))), rfl, rfl⟩
    have hg := get_new S (D.lst ((pre.flatMap fun a : Nat => [(a : Int) + 1, -((a : Int) + 1)]).map .int))
    simp only [sSeq, sExpr, eMt, eVar, gN, List.set_cons_succ, List.set_cons_zero, List.getElem?_cons_succ, List.getElem?_cons_zero, R.bind_ok, ckL_ok hg, if_true]
    simp only [eVar, eC, e1, e2, eCB, aNil, aCons, eTup, sNil, sSeq, sAsg, sSet, sExpr, sRet, sRetN, sIf, sPass, sBreak, sCont, bVal, bAnd, bOr, bNot, eIf, eAnd, eOr, sPar, sPar3, sAug, eLst, FZ, BX, gN, gT, gAll, oNone, oSome, conL, seqL, stL, bYes, R.bind_ok, bindS_ok, List.getElem?_cons_zero, List.getElem?_cons_succ, List.length_cons, List.length_nil, Nat.zero_add, List.set_cons_zero, List.set_cons_succ, Option.bind_some, if_true, if_false, Bool.false_eq_true, reduceIte, decide_true, decide_false, Bool.not_true, Bool.not_false, opSub, addI, Hx.opI, opGt, opLt, opGe, opLe, opDiv, opMod, opNeg, biAbs, biInt, biMax, biMin, bi2, biTuple, wipeE, List.map_cons, List.map_nil, List.replicate, List.cons_append, List.nil_append]
    rw [if_pos (small_line (by omega))]
    simp only [eVar, eC, e1, e2, eCB, aNil, aCons, eTup, sNil, sSeq, sAsg, sSet, sExpr, sRet, sRetN, sIf, sPass, sBreak, sCont, bVal, bAnd, bOr, bNot, eIf, eAnd, eOr, sPar, sPar3, sAug, eLst, FZ, BX, gN, gT, gAll, oNone, oSome, conL, seqL, stL, bYes, R.bind_ok, bindS_ok, List.getElem?_cons_zero, List.getElem?_cons_succ, List.length_cons, List.length_nil, Nat.zero_add, List.set_cons_zero, List.set_cons_succ, Option.bind_some, if_true, if_false, Bool.false_eq_true, reduceIte, decide_true, decide_false, Bool.not_true, Bool.not_false, opSub, addI, Hx.opI, opGt, opLt, opGe, opLe, opDiv, opMod, opNeg, biAbs, biInt, biMax, biMin, bi2, biTuple, wipeE, List.map_cons, List.map_nil, List.replicate, List.cons_append, List.nil_append]
    rw [extend_ok hg rfl (by rw [signs_len]; exact small_line (by simp only [List.length_cons, List.length_nil]; omega))]
    simp only [eVar, eC, e1, e2, eCB, aNil, aCons, eTup, sNil, sSeq, sAsg, sSet, sExpr, sRet, sRetN, sIf, sPass, sBreak, sCont, bVal, bAnd, bOr, bNot, eIf, eAnd, eOr, sPar, sPar3, sAug, eLst, FZ, BX, gN, gT, gAll, oNone, oSome, conL, seqL, stL, bYes, R.bind_ok, bindS_ok, List.getElem?_cons_zero, List.getElem?_cons_succ, List.length_cons, List.length_nil, Nat.zero_add, List.set_cons_zero, List.set_cons_succ, Option.bind_some, if_true, if_false, Bool.false_eq_true, reduceIte, decide_true, decide_false, Bool.not_true, Bool.not_false, opSub, addI, Hx.opI, opGt, opLt, opGe, opLe, opDiv, opMod, opNeg, biAbs, biInt, biMax, biMin, bi2, biTuple, wipeE, List.map_cons, List.map_nil, List.replicate, List.cons_append, List.nil_append]
    rw [set_new, List.flatMap_append, List.map_append, List.flatMap_singleton, Int.add_comm 1 (a : Int)]
    rfl
  · obtain ⟨i, rfl, rfl⟩ := hR
    rfl
end K48
set_option Elab.async false
set_option linter.all false
set_option maxRecDepth 100000
set_option maxHeartbeats 1000000
namespace K48
open PySem PySem.Spec PyProof.Rows L2 Hx
open FG (E3 edge roseW rose places signs)
/-- an edge as a word -/
def wE (e : E3) : List Int := [e.1, e.2.1, e.2.2]
abbrev eE (e : E3) : D := .tup [.int e.1, .int e.2.1, .int e.2.2]
theorem dW_wE (e : E3) : dW (wE e) = eE e := rfl
theorem wE_inj {a b : E3} (h : wE a = wE b) : a = b := by
  obtain ⟨p, x, q⟩ := a
  obtain ⟨p', x', q'⟩ := b
  simp only [wE, List.cons.injEq, and_true] at h
  obtain ⟨h1, h2, h3⟩ := h
  rw [h1, h2, h3]
theorem wE_ne (e : E3) : wE e ≠ [] := by simp [wE]
theorem nodup_of_map {α β : Type} (f : α → β) : ∀ {l : List α}, (l.map f).Nodup → l.Nodup
  | [], _ => List.nodup_nil
  | a :: l, h => by
    rw [List.map_cons, List.nodup_cons] at h
    rw [List.nodup_cons]
    exact ⟨fun z => h.1 (List.mem_map_of_mem z), nodup_of_map f h.2⟩
theorem map_of_nodup {α β : Type} (f : α → β) (inj : ∀ a b, f a = f b → a = b) : ∀ {l : List α}, l.Nodup → (l.map f).Nodup
  | [], _ => List.nodup_nil
  | a :: l, h => by
    rw [List.nodup_cons] at h
    rw [List.map_cons, List.nodup_cons]
    refine ⟨fun z => ?_, map_of_nodup f inj h.2⟩
    obtain ⟨b, hb, e⟩ := List.mem_map.mp z
    exact h.1 (inj _ _ e ▸ hb)
theorem exists_map {α β : Type} (f : α → β) : ∀ {l : List β}, (∀ b ∈ l, ∃ a, b = f a) → ∃ m : List α, l = m.map f
  | [], _ => ⟨[], rfl⟩
  | b :: l, h => by
    obtain ⟨a, rfl⟩ := h b List.mem_cons_self
    obtain ⟨m, rfl⟩ := exists_map f (l := l) fun x hx => h x (List.mem_cons_of_mem _ hx)
    exact ⟨a :: m, rfl⟩
/-- words as the keys of a dict, then sorted -/
theorem keys_words {β : Type} {kvs : List (List L2.Key × β)} {ws : List (List Int)} (hn : (kvs.map (·.1)).Nodup) (hm : ∀ k, k ∈ kvs.map (·.1) ↔ k ∈ ws.map kW) : ∃ l : List (List Int), kvs.map (·.1) = l.map kW ∧ l.Nodup ∧ ∀ w, w ∈ l ↔ w ∈ ws := by
  obtain ⟨l, hl⟩ := exists_map kW (l := kvs.map (·.1)) fun k hk => by
    obtain ⟨w, _, e⟩ := List.mem_map.mp ((hm k).mp hk)
    exact ⟨w, e.symm⟩
  refine ⟨l, hl, nodup_of_map kW (by rw [← hl]; exact hn), fun w => ?_⟩
  have : kW w ∈ l.map kW ↔ kW w ∈ ws.map kW := by rw [← hl]; exact hm _
  have key : ∀ m : List (List Int), kW w ∈ m.map kW ↔ w ∈ m := fun m => by
    rw [List.mem_map]
    exact ⟨fun ⟨x, hx, e⟩ => kW_inj e ▸ hx, fun h => ⟨w, h, rfl⟩⟩
  rw [key, key] at this
  exact this
theorem dict_sorted (S : Store) (ws : List (List Int)) (f : D) (hne : ∀ w ∈ ws, w ≠ []) : ∃ (kvs : List (List L2.Key × D)) (l : List (List Int)), l.Nodup ∧ (∀ w, w ∈ l ↔ w ∈ ws) ∧ opDictT FZ [.lst (ws.map fun w => D.tup [dW w, f])] S = .ok (.dT kvs) S ∧ opSorted FZ [.dT kvs] S = .ok (.lst ((srtW l).map dW)) S := by
  have hp : pairsT (ws.map fun w => D.tup [dW w, f]) = some (ws.map fun w => (kW w, f)) := by
    have := pairsT_W (β := D) (fun x => x) (ws.map fun w => (w, f))
    rw [List.map_map, List.map_map] at this
    exact this
  obtain ⟨h1, h2, h3⟩ := mg_spec (ws.map fun w => (kW w, f)) [] List.nodup_nil
  obtain ⟨l, e, hn, hm⟩ := keys_words (ws := ws) h1 fun k => (h2 k).trans (by
    rw [List.map_map]
    exact ⟨fun z => z.elim (fun q => by simp at q) id, .inr⟩)
  refine ⟨mg [] (ws.map fun w => (kW w, f)), l, hn, hm, ?_, ?_⟩
  · unfold opDictT
    simp only [conL, hp, FZ]
  · exact sorted_dict rfl rfl rfl e fun w hw => hne w ((hm w).mp hw)
theorem edges_sorted (S : Store) (es : List E3) (f : D) : ∃ (kvs : List (List L2.Key × D)) (res : List E3), res.Nodup ∧ (∀ e : E3, e ∈ res ↔ e ∈ es) ∧ opDictT FZ [.lst (es.map fun e => D.tup [eE e, f])] S = .ok (.dT kvs) S ∧ opSorted FZ [.dT kvs] S = .ok (.lst (res.map eE)) S := by
  obtain ⟨kvs, l, h1, h2, h3, h4⟩ := dict_sorted S (es.map wE) f (fun w hw => by
    obtain ⟨e, _, rfl⟩ := List.mem_map.mp hw
    exact wE_ne e)
  have hs : ∀ w, w ∈ srtW l ↔ w ∈ es.map wE := fun w => mem_srtW.trans (h2 w)
  obtain ⟨res, er⟩ := exists_map wE (l := srtW l) fun w hw => by
    obtain ⟨e, _, z⟩ := List.mem_map.mp ((hs w).mp hw)
    exact ⟨e, z.symm⟩
  refine ⟨kvs, res, nodup_of_map wE (by rw [← er]; exact srtW_nodup h1), fun e => ?_, ?_, ?_⟩
  · have := hs (wE e)
    rw [er, List.mem_map, List.mem_map] at this
    constructor
    · intro h
      obtain ⟨x, hx, z⟩ := this.mp ⟨e, h, rfl⟩
      exact wE_inj z ▸ hx
    · intro h
      obtain ⟨x, hx, z⟩ := this.mpr ⟨e, h, rfl⟩
      exact wE_inj z ▸ hx
  · rw [List.map_map] at h3
    exact h3
  · rw [er, List.map_map] at h4
    exact h4
/-! ### the program's rose -/
theorem rose_loop {u : SS} {full : List Int} {x0 : Option D} {S : Store} (hu : ∀ (k : Nat) (s here many : Int) (fs : List D) (e7 : Option D), k < full.length → fs.length < 200000 →
      u [x0, some (.obj S.length), some (.int many), some (dW full), some (.int here), some (.int (k : Int)), some (.int s), e7] (S ++ [.lst fs]) =
        .nx [x0, some (.obj S.length), some (.int (many + if k + 1 < full.length then 1 else 0)), some (dW full), some (.int (if k + 1 < full.length then many else 0)), some (.int (k : Int)), some (.int s), some (.int (if k + 1 < full.length then many else 0))]
          (S ++ [.lst (fs ++ [eE (edge here s (if k + 1 < full.length then many else 0))])])) :
    ∀ (w : List Int) (k : Nat) (here many : Int) (fs : List D) (e5 e6 e7 : Option D), k + w.length = full.length → fs.length + w.length ≤ 200000 →
      ∃ e4' e5' e6' e7', forL (gT [gN 5, gN 6]) u (enumD k (w.map .int)) [x0, some (.obj S.length), some (.int many), some (dW full), some (.int here), e5, e6, e7] (S ++ [.lst fs]) =
        .nx [x0, some (.obj S.length), some (.int (many + ((w.length - 1 : Nat) : Int))), some (dW full), e4', e5', e6', e7'] (S ++ [.lst (fs ++ (roseW here many w).map eE)])
  | [], k, here, many, fs, e5, e6, e7, _, _ => ⟨some (.int here), e5, e6, e7, by simp [roseW, forL, enumD]⟩
  | s :: w, k, here, many, fs, e5, e6, e7, hk, hl => by
    rw [List.length_cons] at hk hl
    have hs := hu k s here many fs e7 (by omega) (by omega)
    have hstep : forL (gT [gN 5, gN 6]) u (enumD k ((s :: w).map .int)) [x0, some (.obj S.length), some (.int many), some (dW full), some (.int here), e5, e6, e7] (S ++ [.lst fs]) =
        forL (gT [gN 5, gN 6]) u (enumD (k + 1) (w.map .int)) [x0, some (.obj S.length), some (.int (many + if k + 1 < full.length then 1 else 0)), some (dW full), some (.int (if k + 1 < full.length then many else 0)), some (.int (k : Int)), some (.int s), some (.int (if k + 1 < full.length then many else 0))]
          (S ++ [.lst (fs ++ [eE (edge here s (if k + 1 < full.length then many else 0))])]) := by
      rw [List.map_cons, enumD]
      conv => lhs; unfold forL
      have hg : gT [gN 5, gN 6] (.tup [.int (k : Int), .int s]) [x0, some (.obj S.length), some (.int many), some (dW full), some (.int here), e5, e6, e7] = some [x0, some (.obj S.length), some (.int many), some (dW full), some (.int here), some (.int (k : Int)), some (.int s), e7] := rfl
      rw [hg]
      dsimp only
      rw [hs]
    rw [hstep]
    cases w with
    | nil =>
      have hn : ¬ k + 1 < full.length := by
        rw [List.length_nil] at hk
        omega
      simp only [hn, if_false]
      exact ⟨some (.int 0), some (.int (k : Int)), some (.int s), some (.int 0), by simp [roseW, forL, enumD]⟩
    | cons t w =>
      have hn : k + 1 < full.length := by
        rw [List.length_cons] at hk
        omega
      simp only [hn, if_true]
      obtain ⟨e4', e5', e6', e7', e⟩ := rose_loop hu (t :: w) (k + 1) many (many + 1) (fs ++ [eE (edge here s many)]) (some (.int (k : Int))) (some (.int s)) (some (.int many)) (by omega) (by rw [List.length_append, List.length_singleton]; omega)
      refine ⟨e4', e5', e6', e7', ?_⟩
      rw [e]
      have h1 : many + 1 + (((t :: w).length - 1 : Nat) : Int) = many + (((s :: t :: w).length - 1 : Nat) : Int) := by
        rw [List.length_cons, List.length_cons, List.length_cons]
        omega
      rw [h1, List.append_assoc]
      rfl
theorem biInt_bl (b : Bool) (S : Store) : biInt [.bl b] S = .ok (.int (if b then 1 else 0)) S := rfl
theorem seq_dW (w : List Int) (S : Store) : seqL S (dW w) = some (w.map .int) := rfl
theorem len_dW (w : List Int) (S : Store) : biLen [dW w] S = .ok (.int (w.length : Nat)) S := by
  rw [len_ok (seq_dW w S), List.length_map]
/-- how many acts there are -/
def lenAll (ws : List (List Int)) : Nat := (ws.map List.length).sum
theorem rose_len : ∀ (ws : List (List Int)) (m : Int), (rose m ws).length = lenAll ws := by
  have h1 : ∀ (w : List Int) (here many : Int), (roseW here many w).length = w.length := by
    intro w
    induction w with
    | nil => intros; rfl
    | cons s w ih =>
      intro here many
      cases w with
      | nil => rfl
      | cons t w => show (roseW many (many + 1) (t :: w)).length + 1 = _; rw [ih]; rfl
  intro ws
  induction ws with
  | nil => intros; rfl
  | cons w ws ih =>
    intro m
    show (roseW 0 m w ++ rose _ ws).length = _
    rw [List.length_append, h1, ih]
    rfl
theorem lenAll_app (a b : List (List Int)) : lenAll (a ++ b) = lenAll a + lenAll b := by
  unfold lenAll
  rw [List.map_append, List.sum_append]
theorem rose_app : ∀ (a b : List (List Int)) (m : Int), rose m (a ++ b) = rose m a ++ rose (places m a) b ∧ places m (a ++ b) = places (places m a) b
  | [], b, m => ⟨rfl, rfl⟩
  | w :: a, b, m => by
    obtain ⟨h1, h2⟩ := rose_app a b (m + ((w.length - 1 : Nat) : Int))
    refine ⟨?_, h2⟩
    show roseW 0 m w ++ rose _ (a ++ b) = roseW 0 m w ++ rose _ a ++ _
    rw [h1, List.append_assoc]
    rfl
def roseB : SS := (sSeq (sSet 7 (eIf (bVal (e2 opLt (e2 (opAdd FZ) (eVar 5) (eC (.int 1))) (eCB (biLen) (aCons (eVar 3) aNil)))) (eVar 2) (eC (.int 0))))
    (sSeq (sAug 2 (Hx.opI (fun _ _ => true) fun a b => .int (a + b)) (eCB (biInt) (aCons (e2 opLt (e2 (opAdd FZ) (eVar 5) (eC (.int 1))) (eCB (biLen) (aCons (eVar 3) aNil))) aNil)))
    (sSeq (sExpr (eMt ckL mtAppend (eVar 1) (aCons (eIf (bVal (e2 opGt (eVar 6) (eC (.int 0)))) (eTup (aCons (eVar 4) (aCons (eVar 6) (aCons (eVar 7) aNil)))) (eTup (aCons (eVar 7) (aCons (e1 opNeg (eVar 6)) (aCons (eVar 4) aNil))))) aNil)))
    (sSeq (sSet 4 (eVar 7))
    sNil))))
theorem roseB_ok {full : List Int} {x0 : Option D} {S : Store} (k : Nat) (s here many : Int) (fs : List D) (e7 : Option D) (hk : k < full.length) (hf : fs.length < 200000) :
      roseB [x0, some (.obj S.length), some (.int many), some (dW full), some (.int here), some (.int (k : Int)), some (.int s), e7] (S ++ [.lst fs]) =
        .nx [x0, some (.obj S.length), some (.int (many + if k + 1 < full.length then 1 else 0)), some (dW full), some (.int (if k + 1 < full.length then many else 0)), some (.int (k : Int)), some (.int s), some (.int (if k + 1 < full.length then many else 0))]
          (S ++ [.lst (fs ++ [eE (edge here s (if k + 1 < full.length then many else 0))])]) := by
  have hk' : (((k : Nat) : Int) + 1 < ((full.length : Nat) : Int)) ↔ k + 1 < full.length := by omega
  have hg := get_new S (D.lst fs)
  have hlin : fs.length < sizeLine := Nat.lt_of_lt_of_le hf line_big
  have h3 : (3 : Nat) ≤ sizeLine := by decide
  have a1 : (eIf (bVal (e2 opLt (e2 (opAdd FZ) (eVar 5) (eC (.int 1))) (eCB (biLen) (aCons (eVar 3) aNil)))) (eVar 2) (eC (.int 0))) [x0, some (.obj S.length), some (.int many), some (dW full), some (.int here), some (.int (k : Int)), some (.int s), e7] (S ++ [.lst fs]) = .ok (.int (if k + 1 < full.length then many else 0)) (S ++ [.lst fs]) := by
    simp only [eVar, eC, e1, e2, eCB, aNil, aCons, eTup, sNil, sSeq, sAsg, sSet, sExpr, sRet, sRetN, sIf, sPass, sBreak, sCont, bVal, bAnd, bOr, bNot, eIf, eAnd, eOr, sPar, sPar3, sAug, eLst, FZ, BX, gN, gT, gAll, oNone, oSome, conL, seqL, stL, bYes, R.bind_ok, bindS_ok, List.getElem?_cons_zero, List.getElem?_cons_succ, List.length_cons, List.length_nil, Nat.zero_add, List.set_cons_zero, List.set_cons_succ, Option.bind_some, if_true, if_false, Bool.false_eq_true, reduceIte, decide_true, decide_false, Bool.not_true, Bool.not_false, opSub, addI, Hx.opI, opGt, opLt, opGe, opLe, opDiv, opMod, opNeg, biAbs, biInt, biMax, biMin, bi2, biTuple, wipeE, List.map_cons, List.map_nil, List.replicate, List.cons_append, List.nil_append]
    rw [len_dW]
    simp only [eVar, eC, e1, e2, eCB, aNil, aCons, eTup, sNil, sSeq, sAsg, sSet, sExpr, sRet, sRetN, sIf, sPass, sBreak, sCont, bVal, bAnd, bOr, bNot, eIf, eAnd, eOr, sPar, sPar3, sAug, eLst, FZ, BX, gN, gT, gAll, oNone, oSome, conL, seqL, stL, bYes, R.bind_ok, bindS_ok, List.getElem?_cons_zero, List.getElem?_cons_succ, List.length_cons, List.length_nil, Nat.zero_add, List.set_cons_zero, List.set_cons_succ, Option.bind_some, if_true, if_false, Bool.false_eq_true, reduceIte, decide_true, decide_false, Bool.not_true, Bool.not_false, opSub, addI, Hx.opI, opGt, opLt, opGe, opLe, opDiv, opMod, opNeg, biAbs, biInt, biMax, biMin, bi2, biTuple, wipeE, List.map_cons, List.map_nil, List.replicate, List.cons_append, List.nil_append]
    by_cases q : k + 1 < full.length
    · rw [if_pos (decide_eq_true (hk'.mpr q)), if_pos q]
    · rw [if_neg (by rw [decide_eq_true_eq]; exact fun z => q (hk'.mp z)), if_neg q]
  unfold roseB
  refine sq_nx (env' := [x0, some (.obj S.length), some (.int many), some (dW full), some (.int here), some (.int (k : Int)), some (.int s), some (.int (if k + 1 < full.length then many else 0))]) (S' := S ++ [.lst fs]) (by simp only [sSet, sAsg, a1, bindS_ok, gN]; rfl) ?_
  generalize (if k + 1 < full.length then many else 0) = there
  refine sq_nx (env' := [x0, some (.obj S.length), some (.int (many + if k + 1 < full.length then 1 else 0)), some (dW full), some (.int here), some (.int (k : Int)), some (.int s), some (.int there)]) (S' := S ++ [.lst fs]) ?_ ?_
  · simp only [eVar, eC, e1, e2, eCB, aNil, aCons, eTup, sNil, sSeq, sAsg, sSet, sExpr, sRet, sRetN, sIf, sPass, sBreak, sCont, bVal, bAnd, bOr, bNot, eIf, eAnd, eOr, sPar, sPar3, sAug, eLst, FZ, BX, gN, gT, gAll, oNone, oSome, conL, seqL, stL, bYes, R.bind_ok, bindS_ok, List.getElem?_cons_zero, List.getElem?_cons_succ, List.length_cons, List.length_nil, Nat.zero_add, List.set_cons_zero, List.set_cons_succ, Option.bind_some, if_true, if_false, Bool.false_eq_true, reduceIte, decide_true, decide_false, Bool.not_true, Bool.not_false, opSub, addI, Hx.opI, opGt, opLt, opGe, opLe, opDiv, opMod, opNeg, biAbs, biInt, biMax, biMin, bi2, biTuple, wipeE, List.map_cons, List.map_nil, List.replicate, List.cons_append, List.nil_append]
    rw [len_dW]
    simp only [eVar, eC, e1, e2, eCB, aNil, aCons, eTup, sNil, sSeq, sAsg, sSet, sExpr, sRet, sRetN, sIf, sPass, sBreak, sCont, bVal, bAnd, bOr, bNot, eIf, eAnd, eOr, sPar, sPar3, sAug, eLst, FZ, BX, gN, gT, gAll, oNone, oSome, conL, seqL, stL, bYes, R.bind_ok, bindS_ok, List.getElem?_cons_zero, List.getElem?_cons_succ, List.length_cons, List.length_nil, Nat.zero_add, List.set_cons_zero, List.set_cons_succ, Option.bind_some, if_true, if_false, Bool.false_eq_true, reduceIte, decide_true, decide_false, Bool.not_true, Bool.not_false, opSub, addI, Hx.opI, opGt, opLt, opGe, opLe, opDiv, opMod, opNeg, biAbs, biInt, biMax, biMin, bi2, biTuple, wipeE, List.map_cons, List.map_nil, List.replicate, List.cons_append, List.nil_append]
    by_cases q : k + 1 < full.length
    · simp only [hk'.mpr q, q, decide_true, if_true]
    · have q' : ¬ (((k : Nat) : Int) + 1 < ((full.length : Nat) : Int)) := fun z => q (hk'.mp z)
      simp only [q, q', decide_false, if_false, Bool.false_eq_true]
  refine sq_nx (env' := [x0, some (.obj S.length), some (.int (many + if k + 1 < full.length then 1 else 0)), some (dW full), some (.int here), some (.int (k : Int)), some (.int s), some (.int there)]) (S' := S ++ [.lst (fs ++ [eE (edge here s there)])]) ?_ ?_
  · simp only [sExpr, eMt, eVar, List.getElem?_cons_succ, List.getElem?_cons_zero, R.bind_ok, ckL_ok hg, if_true]
    simp only [eVar, eC, e1, e2, eCB, aNil, aCons, eTup, sNil, sSeq, sAsg, sSet, sExpr, sRet, sRetN, sIf, sPass, sBreak, sCont, bVal, bAnd, bOr, bNot, eIf, eAnd, eOr, sPar, sPar3, sAug, eLst, FZ, BX, gN, gT, gAll, oNone, oSome, conL, seqL, stL, bYes, R.bind_ok, bindS_ok, List.getElem?_cons_zero, List.getElem?_cons_succ, List.length_cons, List.length_nil, Nat.zero_add, List.set_cons_zero, List.set_cons_succ, Option.bind_some, if_true, if_false, Bool.false_eq_true, reduceIte, decide_true, decide_false, Bool.not_true, Bool.not_false, opSub, addI, Hx.opI, opGt, opLt, opGe, opLe, opDiv, opMod, opNeg, biAbs, biInt, biMax, biMin, bi2, biTuple, wipeE, List.map_cons, List.map_nil, List.replicate, List.cons_append, List.nil_append]
    unfold edge
    by_cases q : 0 < s
    · simp only [q, decide_true, if_true]
      try simp only [eVar, eC, e1, e2, eCB, aNil, aCons, eTup, sNil, sSeq, sAsg, sSet, sExpr, sRet, sRetN, sIf, sPass, sBreak, sCont, bVal, bAnd, bOr, bNot, eIf, eAnd, eOr, sPar, sPar3, sAug, eLst, FZ, BX, gN, gT, gAll, oNone, oSome, conL, seqL, stL, bYes, R.bind_ok, bindS_ok, List.getElem?_cons_zero, List.getElem?_cons_succ, List.length_cons, List.length_nil, Nat.zero_add, List.set_cons_zero, List.set_cons_succ, Option.bind_some, if_true, if_false, Bool.false_eq_true, reduceIte, decide_true, decide_false, Bool.not_true, Bool.not_false, opSub, addI, Hx.opI, opGt, opLt, opGe, opLe, opDiv, opMod, opNeg, biAbs, biInt, biMax, biMin, bi2, biTuple, wipeE, List.map_cons, List.map_nil, List.replicate, List.cons_append, List.nil_append]
      rw [if_pos h3]
      try simp only [eVar, eC, e1, e2, eCB, aNil, aCons, eTup, sNil, sSeq, sAsg, sSet, sExpr, sRet, sRetN, sIf, sPass, sBreak, sCont, bVal, bAnd, bOr, bNot, eIf, eAnd, eOr, sPar, sPar3, sAug, eLst, FZ, BX, gN, gT, gAll, oNone, oSome, conL, seqL, stL, bYes, R.bind_ok, bindS_ok, List.getElem?_cons_zero, List.getElem?_cons_succ, List.length_cons, List.length_nil, Nat.zero_add, List.set_cons_zero, List.set_cons_succ, Option.bind_some, if_true, if_false, Bool.false_eq_true, reduceIte, decide_true, decide_false, Bool.not_true, Bool.not_false, opSub, addI, Hx.opI, opGt, opLt, opGe, opLe, opDiv, opMod, opNeg, biAbs, biInt, biMax, biMin, bi2, biTuple, wipeE, List.map_cons, List.map_nil, List.replicate, List.cons_append, List.nil_append]
      rw [append_ok _ hg hlin]
      simp only [eVar, eC, e1, e2, eCB, aNil, aCons, eTup, sNil, sSeq, sAsg, sSet, sExpr, sRet, sRetN, sIf, sPass, sBreak, sCont, bVal, bAnd, bOr, bNot, eIf, eAnd, eOr, sPar, sPar3, sAug, eLst, FZ, BX, gN, gT, gAll, oNone, oSome, conL, seqL, stL, bYes, R.bind_ok, bindS_ok, List.getElem?_cons_zero, List.getElem?_cons_succ, List.length_cons, List.length_nil, Nat.zero_add, List.set_cons_zero, List.set_cons_succ, Option.bind_some, if_true, if_false, Bool.false_eq_true, reduceIte, decide_true, decide_false, Bool.not_true, Bool.not_false, opSub, addI, Hx.opI, opGt, opLt, opGe, opLe, opDiv, opMod, opNeg, biAbs, biInt, biMax, biMin, bi2, biTuple, wipeE, List.map_cons, List.map_nil, List.replicate, List.cons_append, List.nil_append]
      rw [set_new]
    · simp only [q, decide_false, if_false, Bool.false_eq_true]
      try simp only [eVar, eC, e1, e2, eCB, aNil, aCons, eTup, sNil, sSeq, sAsg, sSet, sExpr, sRet, sRetN, sIf, sPass, sBreak, sCont, bVal, bAnd, bOr, bNot, eIf, eAnd, eOr, sPar, sPar3, sAug, eLst, FZ, BX, gN, gT, gAll, oNone, oSome, conL, seqL, stL, bYes, R.bind_ok, bindS_ok, List.getElem?_cons_zero, List.getElem?_cons_succ, List.length_cons, List.length_nil, Nat.zero_add, List.set_cons_zero, List.set_cons_succ, Option.bind_some, if_true, if_false, Bool.false_eq_true, reduceIte, decide_true, decide_false, Bool.not_true, Bool.not_false, opSub, addI, Hx.opI, opGt, opLt, opGe, opLe, opDiv, opMod, opNeg, biAbs, biInt, biMax, biMin, bi2, biTuple, wipeE, List.map_cons, List.map_nil, List.replicate, List.cons_append, List.nil_append]
      rw [if_pos h3]
      try simp only [eVar, eC, e1, e2, eCB, aNil, aCons, eTup, sNil, sSeq, sAsg, sSet, sExpr, sRet, sRetN, sIf, sPass, sBreak, sCont, bVal, bAnd, bOr, bNot, eIf, eAnd, eOr, sPar, sPar3, sAug, eLst, FZ, BX, gN, gT, gAll, oNone, oSome, conL, seqL, stL, bYes, R.bind_ok, bindS_ok, List.getElem?_cons_zero, List.getElem?_cons_succ, List.length_cons, List.length_nil, Nat.zero_add, List.set_cons_zero, List.set_cons_succ, Option.bind_some, if_true, if_false, Bool.false_eq_true, reduceIte, decide_true, decide_false, Bool.not_true, Bool.not_false, opSub, addI, Hx.opI, opGt, opLt, opGe, opLe, opDiv, opMod, opNeg, biAbs, biInt, biMax, biMin, bi2, biTuple, wipeE, List.map_cons, List.map_nil, List.replicate, List.cons_append, List.nil_append]
      rw [append_ok _ hg hlin]
      simp only [eVar, eC, e1, e2, eCB, aNil, aCons, eTup, sNil, sSeq, sAsg, sSet, sExpr, sRet, sRetN, sIf, sPass, sBreak, sCont, bVal, bAnd, bOr, bNot, eIf, eAnd, eOr, sPar, sPar3, sAug, eLst, FZ, BX, gN, gT, gAll, oNone, oSome, conL, seqL, stL, bYes, R.bind_ok, bindS_ok, List.getElem?_cons_zero, List.getElem?_cons_succ, List.length_cons, List.length_nil, Nat.zero_add, List.set_cons_zero, List.set_cons_succ, Option.bind_some, if_true, if_false, Bool.false_eq_true, reduceIte, decide_true, decide_false, Bool.not_true, Bool.not_false, opSub, addI, Hx.opI, opGt, opLt, opGe, opLe, opDiv, opMod, opNeg, biAbs, biInt, biMax, biMin, bi2, biTuple, wipeE, List.map_cons, List.map_nil, List.replicate, List.cons_append, List.nil_append]
      rw [set_new]
  · rfl
theorem rose_edges_run (d : D) (ws : List (List Int)) (hd : stL d = some (ws.map dW)) (hl : lenAll ws ≤ 100000) (S : Store) : u_rose_edges ([d].map some ++ List.replicate (8 - 1) none) S =
    if 300 < places 1 ws then .exc (.int 2) (S ++ [.lst ((rose 1 ws).map eE)]) else .rt (.tup [.obj S.length, .int (places 1 ws)]) (S ++ [.lst ((rose 1 ws).map eE)]) := by
  unfold u_rose_edges
  refine sq_nx (env' := [some d, some (.obj S.length), some (.int 1), none, none, none, none, none]) (S' := S ++ [.lst []]) rfl ?_
  refine sq_for dW ws (fun pre env S' => ∃ e3 e4 e5 e6 e7, env = [some d, some (.obj S.length), some (.int (places 1 pre)), e3, e4, e5, e6, e7] ∧ S' = S ++ [.lst ((rose 1 pre).map eE)])
    (srcV_ok rfl hd) ⟨none, none, none, none, none, rfl, rfl⟩ (fun pre w post env S' e hR => ?_) (fun env' S' hR => ?_)
  · obtain ⟨e3, e4, e5, e6, e7, rfl, rfl⟩ := hR
    have hlen : lenAll pre + w.length ≤ 100000 := by
      rw [e, lenAll_app] at hl
      have : lenAll (w :: post) = w.length + lenAll post := rfl
      omega
    obtain ⟨e4', e5', e6', e7', er⟩ := rose_loop (u := roseB) (full := w) (x0 := some d) (S := S) roseB_ok w 0 0 (places 1 pre) ((rose 1 pre).map eE) e5 e6 e7 (Nat.zero_add _) (by rw [List.length_map, rose_len]; omega)
    obtain ⟨r1, r2⟩ := rose_app pre [w] 1
    refine ⟨[some d, some (.obj S.length), some (.int (places 1 pre)), some (dW w), e4, e5, e6, e7], [some d, some (.obj S.length), some (.int (places 1 pre + ((w.length - 1 : Nat) : Int))), some (dW w), e4', e5', e6', e7'], S ++ [.lst ((rose 1 pre).map eE ++ (roseW 0 (places 1 pre) w).map eE)], rfl, ?_, some (dW w), e4', e5', e6', e7', ?_, ?_⟩
    · refine sq_nx (env' := [some d, some (.obj S.length), some (.int (places 1 pre)), some (dW w), some (.int 0), e5, e6, e7]) (S' := S ++ [.lst ((rose 1 pre).map eE)]) rfl ?_
      exact sq_nx (for_nx (srcE_ok rfl rfl) er) rfl
    · rw [r2]
      rfl
    · rw [r1, List.map_append]
      show S ++ [.lst ((rose 1 pre).map eE ++ (roseW 0 (places 1 pre) w).map eE)] = S ++ [.lst ((rose 1 pre).map eE ++ (roseW 0 (places 1 pre) w ++ []).map eE)]
      rw [List.append_nil]
  · obtain ⟨e3, e4, e5, e6, e7, rfl, rfl⟩ := hR
    by_cases q : 300 < places 1 ws
    · rw [if_pos q]
      simp only [eVar, eC, e1, e2, eCB, aNil, aCons, eTup, sNil, sSeq, sAsg, sSet, sExpr, sRet, sRetN, sIf, sPass, sBreak, sCont, bVal, bAnd, bOr, bNot, eIf, eAnd, eOr, sPar, sPar3, sAug, eLst, FZ, BX, gN, gT, gAll, oNone, oSome, conL, seqL, stL, bYes, R.bind_ok, bindS_ok, List.getElem?_cons_zero, List.getElem?_cons_succ, List.length_cons, List.length_nil, Nat.zero_add, List.set_cons_zero, List.set_cons_succ, Option.bind_some, if_true, if_false, Bool.false_eq_true, reduceIte, decide_true, decide_false, Bool.not_true, Bool.not_false, opSub, addI, Hx.opI, opGt, opLt, opGe, opLe, opDiv, opMod, opNeg, biAbs, biInt, biMax, biMin, bi2, biTuple, wipeE, List.map_cons, List.map_nil, List.replicate, List.cons_append, List.nil_append]
      simp only [q, decide_true, if_true, sRaise, eC, bindS_ok]
    · rw [if_neg q]
      simp only [eVar, eC, e1, e2, eCB, aNil, aCons, eTup, sNil, sSeq, sAsg, sSet, sExpr, sRet, sRetN, sIf, sPass, sBreak, sCont, bVal, bAnd, bOr, bNot, eIf, eAnd, eOr, sPar, sPar3, sAug, eLst, FZ, BX, gN, gT, gAll, oNone, oSome, conL, seqL, stL, bYes, R.bind_ok, bindS_ok, List.getElem?_cons_zero, List.getElem?_cons_succ, List.length_cons, List.length_nil, Nat.zero_add, List.set_cons_zero, List.set_cons_succ, Option.bind_some, if_true, if_false, Bool.false_eq_true, reduceIte, decide_true, decide_false, Bool.not_true, Bool.not_false, opSub, addI, Hx.opI, opGt, opLt, opGe, opLe, opDiv, opMod, opNeg, biAbs, biInt, biMax, biMin, bi2, biTuple, wipeE, List.map_cons, List.map_nil, List.replicate, List.cons_append, List.nil_append]
      simp only [q, decide_false, if_false, Bool.false_eq_true]
      simp only [eVar, eC, e1, e2, eCB, aNil, aCons, eTup, sNil, sSeq, sAsg, sSet, sExpr, sRet, sRetN, sIf, sPass, sBreak, sCont, bVal, bAnd, bOr, bNot, eIf, eAnd, eOr, sPar, sPar3, sAug, eLst, FZ, BX, gN, gT, gAll, oNone, oSome, conL, seqL, stL, bYes, R.bind_ok, bindS_ok, List.getElem?_cons_zero, List.getElem?_cons_succ, List.length_cons, List.length_nil, Nat.zero_add, List.set_cons_zero, List.set_cons_succ, Option.bind_some, if_true, if_false, Bool.false_eq_true, reduceIte, decide_true, decide_false, Bool.not_true, Bool.not_false, opSub, addI, Hx.opI, opGt, opLt, opGe, opLe, opDiv, opMod, opNeg, biAbs, biInt, biMax, biMin, bi2, biTuple, wipeE, List.map_cons, List.map_nil, List.replicate, List.cons_append, List.nil_append]
      rw [if_pos (by decide : (1 + 1 : Nat) ≤ sizeLine)]
      rfl
theorem rose_edges_ok (d : D) (ws : List (List Int)) (hd : stL d = some (ws.map dW)) (hl : lenAll ws ≤ 100000) (S : Store) (h : places 1 ws ≤ 300) : F_rose_edges [d] S = .ok (.tup [.lst ((rose 1 ws).map eE), .int (places 1 ws)]) S := by
  refine fn_cut (T := [.lst ((rose 1 ws).map eE)]) rfl ((rose_edges_run d ws hd hl S).trans (if_neg (by omega))) ?_
  have hf : deep S.length (S ++ [.lst ((rose 1 ws).map eE)]) 3 S.length = some (.lst ((rose 1 ws).map eE)) := frz_lst (get_new S _) (Nat.le_refl _) (pureL_of (pure_map fun a _ => rfl))
  unfold frz
  simp only [D.sub, D.subL, hf, Option.map_some]
theorem rose_edges_great (d : D) (ws : List (List Int)) (hd : stL d = some (ws.map dW)) (hl : lenAll ws ≤ 100000) (S : Store) (h : 300 < places 1 ws) : F_rose_edges [d] S = .exc (.int 2) S := by
  have := (rose_edges_run d ws hd hl S).trans (if_pos h)
  unfold F_rose_edges cutF defF
  rw [if_pos (show [d].length = 1 from rfl), this]
  unfold cutR
  dsimp only
  rw [if_pos (okS_self _ _ _)]
  have : frz S.length (S ++ [D.lst ((rose 1 ws).map eE)]) (.int 2) = some (.int 2) := rfl
  rw [this]
  dsimp only
  rw [List.take_left]
end K48
set_option Elab.async false
set_option linter.all false
set_option maxRecDepth 100000
set_option maxHeartbeats 1000000
namespace K48
open PySem PySem.Spec PyProof.Rows L2 Hx
open FG (E3 edge roseW rose places signs)
theorem scope_nx {f : SS} {env env' : Ev} {S T : Store} (h : f env S = .nx env' (S ++ T)) : sScope f env S = .nx (cutE S.length (S ++ T) env') S := by
  unfold sScope
  rw [h]
  unfold Hx.cutS
  dsimp only
  rw [if_pos (okS_self _ _ _), List.take_left]
def lawB : SS := (sSeq (sExpr (eMt ckL mtAppend (eVar 1) (aCons (eIf (bVal (e2 opGt (eVar 6) (eC (.int 0)))) (eTup (aCons (e2 opIx (eVar 5) (eVar 4)) (aCons (eVar 6) (aCons (e2 opIx (eVar 5) (e2 (opAdd FZ) (eVar 4) (eC (.int 1)))) aNil)))) (eTup (aCons (e2 opIx (eVar 5) (e2 (opAdd FZ) (eVar 4) (eC (.int 1)))) (aCons (e2 (opSub) (eC (.int 0)) (eVar 6)) (aCons (e2 opIx (eVar 5) (eVar 4)) aNil))))) aNil)))
    sNil)
theorem ix_int {L : List Int} {k : Nat} {a : Int} (h : L[k]? = some a) (S : Store) : opIx (.lst (L.map .int)) (.int (k : Int)) S = .ok (.int a) S :=
  opIx_ok (ds := L.map .int) rfl (by rw [List.getElem?_map, h]; rfl)
theorem lawB_ok {x0 x2 x3 x7 : Option D} {S : Store} {L : List Int} (k : Nat) (s here there : Int) (fs : List D) (h1 : L[k]? = some here) (h2 : L[k + 1]? = some there) (hf : fs.length < 200000) :
    lawB [x0, some (.obj S.length), x2, x3, some (.int (k : Int)), some (.lst (L.map .int)), some (.int s), x7] (S ++ [.lst fs]) =
      .nx [x0, some (.obj S.length), x2, x3, some (.int (k : Int)), some (.lst (L.map .int)), some (.int s), x7] (S ++ [.lst (fs ++ [eE (edge here s there)])]) := by
  have hg := get_new S (D.lst fs)
  have hlin : fs.length < sizeLine := Nat.lt_of_lt_of_le hf line_big
  have h3 : (1 + 1 + 1 : Nat) ≤ sizeLine := by decide
  have ek : ((k : Int) + 1) = ((k + 1 : Nat) : Int) := by omega
  unfold lawB
  refine sq_nx (env' := [x0, some (.obj S.length), x2, x3, some (.int (k : Int)), some (.lst (L.map .int)), some (.int s), x7]) (S' := S ++ [.lst (fs ++ [eE (edge here s there)])]) ?_ rfl
  simp only [sExpr, eMt, eVar, List.getElem?_cons_succ, List.getElem?_cons_zero, R.bind_ok, ckL_ok hg, if_true]
  simp only [eVar, eC, e1, e2, eCB, aNil, aCons, eTup, sNil, sSeq, sAsg, sSet, sExpr, sRet, sRetN, sIf, sPass, sBreak, sCont, bVal, bAnd, bOr, bNot, eIf, eAnd, eOr, sPar, sPar3, sAug, eLst, FZ, BX, gN, gT, gAll, oNone, oSome, conL, seqL, stL, bYes, R.bind_ok, bindS_ok, List.getElem?_cons_zero, List.getElem?_cons_succ, List.length_cons, List.length_nil, Nat.zero_add, List.set_cons_zero, List.set_cons_succ, Option.bind_some, if_true, if_false, Bool.false_eq_true, reduceIte, decide_true, decide_false, Bool.not_true, Bool.not_false, opSub, addI, Hx.opI, opGt, opLt, opGe, opLe, opDiv, opMod, opNeg, biAbs, biInt, biMax, biMin, bi2, biTuple, wipeE, List.map_cons, List.map_nil, List.replicate, List.cons_append, List.nil_append]
  rw [ek]
  unfold edge
  by_cases q : 0 < s
  · simp only [q, decide_true, if_true, ix_int h1, ix_int h2, R.bind_ok]
    try simp only [eVar, eC, e1, e2, eCB, aNil, aCons, eTup, sNil, sSeq, sAsg, sSet, sExpr, sRet, sRetN, sIf, sPass, sBreak, sCont, bVal, bAnd, bOr, bNot, eIf, eAnd, eOr, sPar, sPar3, sAug, eLst, FZ, BX, gN, gT, gAll, oNone, oSome, conL, seqL, stL, bYes, R.bind_ok, bindS_ok, List.getElem?_cons_zero, List.getElem?_cons_succ, List.length_cons, List.length_nil, Nat.zero_add, List.set_cons_zero, List.set_cons_succ, Option.bind_some, if_true, if_false, Bool.false_eq_true, reduceIte, decide_true, decide_false, Bool.not_true, Bool.not_false, opSub, addI, Hx.opI, opGt, opLt, opGe, opLe, opDiv, opMod, opNeg, biAbs, biInt, biMax, biMin, bi2, biTuple, wipeE, List.map_cons, List.map_nil, List.replicate, List.cons_append, List.nil_append]
    rw [if_pos h3]
    try simp only [eVar, eC, e1, e2, eCB, aNil, aCons, eTup, sNil, sSeq, sAsg, sSet, sExpr, sRet, sRetN, sIf, sPass, sBreak, sCont, bVal, bAnd, bOr, bNot, eIf, eAnd, eOr, sPar, sPar3, sAug, eLst, FZ, BX, gN, gT, gAll, oNone, oSome, conL, seqL, stL, bYes, R.bind_ok, bindS_ok, List.getElem?_cons_zero, List.getElem?_cons_succ, List.length_cons, List.length_nil, Nat.zero_add, List.set_cons_zero, List.set_cons_succ, Option.bind_some, if_true, if_false, Bool.false_eq_true, reduceIte, decide_true, decide_false, Bool.not_true, Bool.not_false, opSub, addI, Hx.opI, opGt, opLt, opGe, opLe, opDiv, opMod, opNeg, biAbs, biInt, biMax, biMin, bi2, biTuple, wipeE, List.map_cons, List.map_nil, List.replicate, List.cons_append, List.nil_append]
    rw [append_ok _ hg hlin]
    simp only [eVar, eC, e1, e2, eCB, aNil, aCons, eTup, sNil, sSeq, sAsg, sSet, sExpr, sRet, sRetN, sIf, sPass, sBreak, sCont, bVal, bAnd, bOr, bNot, eIf, eAnd, eOr, sPar, sPar3, sAug, eLst, FZ, BX, gN, gT, gAll, oNone, oSome, conL, seqL, stL, bYes, R.bind_ok, bindS_ok, List.getElem?_cons_zero, List.getElem?_cons_succ, List.length_cons, List.length_nil, Nat.zero_add, List.set_cons_zero, List.set_cons_succ, Option.bind_some, if_true, if_false, Bool.false_eq_true, reduceIte, decide_true, decide_false, Bool.not_true, Bool.not_false, opSub, addI, Hx.opI, opGt, opLt, opGe, opLe, opDiv, opMod, opNeg, biAbs, biInt, biMax, biMin, bi2, biTuple, wipeE, List.map_cons, List.map_nil, List.replicate, List.cons_append, List.nil_append]
    rw [set_new]
  · simp only [q, decide_false, if_false, Bool.false_eq_true, ix_int h1, ix_int h2, R.bind_ok]
    try simp only [eVar, eC, e1, e2, eCB, aNil, aCons, eTup, sNil, sSeq, sAsg, sSet, sExpr, sRet, sRetN, sIf, sPass, sBreak, sCont, bVal, bAnd, bOr, bNot, eIf, eAnd, eOr, sPar, sPar3, sAug, eLst, FZ, BX, gN, gT, gAll, oNone, oSome, conL, seqL, stL, bYes, R.bind_ok, bindS_ok, List.getElem?_cons_zero, List.getElem?_cons_succ, List.length_cons, List.length_nil, Nat.zero_add, List.set_cons_zero, List.set_cons_succ, Option.bind_some, if_true, if_false, Bool.false_eq_true, reduceIte, decide_true, decide_false, Bool.not_true, Bool.not_false, opSub, addI, Hx.opI, opGt, opLt, opGe, opLe, opDiv, opMod, opNeg, biAbs, biInt, biMax, biMin, bi2, biTuple, wipeE, List.map_cons, List.map_nil, List.replicate, List.cons_append, List.nil_append]
    rw [if_pos h3]
    try simp only [eVar, eC, e1, e2, eCB, aNil, aCons, eTup, sNil, sSeq, sAsg, sSet, sExpr, sRet, sRetN, sIf, sPass, sBreak, sCont, bVal, bAnd, bOr, bNot, eIf, eAnd, eOr, sPar, sPar3, sAug, eLst, FZ, BX, gN, gT, gAll, oNone, oSome, conL, seqL, stL, bYes, R.bind_ok, bindS_ok, List.getElem?_cons_zero, List.getElem?_cons_succ, List.length_cons, List.length_nil, Nat.zero_add, List.set_cons_zero, List.set_cons_succ, Option.bind_some, if_true, if_false, Bool.false_eq_true, reduceIte, decide_true, decide_false, Bool.not_true, Bool.not_false, opSub, addI, Hx.opI, opGt, opLt, opGe, opLe, opDiv, opMod, opNeg, biAbs, biInt, biMax, biMin, bi2, biTuple, wipeE, List.map_cons, List.map_nil, List.replicate, List.cons_append, List.nil_append]
    rw [append_ok _ hg hlin, Int.zero_sub]
    simp only [eVar, eC, e1, e2, eCB, aNil, aCons, eTup, sNil, sSeq, sAsg, sSet, sExpr, sRet, sRetN, sIf, sPass, sBreak, sCont, bVal, bAnd, bOr, bNot, eIf, eAnd, eOr, sPar, sPar3, sAug, eLst, FZ, BX, gN, gT, gAll, oNone, oSome, conL, seqL, stL, bYes, R.bind_ok, bindS_ok, List.getElem?_cons_zero, List.getElem?_cons_succ, List.length_cons, List.length_nil, Nat.zero_add, List.set_cons_zero, List.set_cons_succ, Option.bind_some, if_true, if_false, Bool.false_eq_true, reduceIte, decide_true, decide_false, Bool.not_true, Bool.not_false, opSub, addI, Hx.opI, opGt, opLt, opGe, opLe, opDiv, opMod, opNeg, biAbs, biInt, biMax, biMin, bi2, biTuple, wipeE, List.map_cons, List.map_nil, List.replicate, List.cons_append, List.nil_append]
    rw [set_new]
theorem law_loop {x0 x2 x3 x7 : Option D} {S : Store} {L : List Int} : ∀ (w : List Int) (k : Nat) (here many : Int) (fs : List D) (e4 e6 : Option D), L[k]? = some here → (∀ j : Nat, j + 1 < w.length → L[k + 1 + j]? = some (many + (j : Int))) → (w ≠ [] → L[k + w.length]? = some 0) → fs.length + w.length ≤ 200000 →
      ∃ e4' e6', forL (gT [gN 4, gN 6]) lawB (enumD k (w.map .int)) [x0, some (.obj S.length), x2, x3, e4, some (.lst (L.map .int)), e6, x7] (S ++ [.lst fs]) =
        .nx [x0, some (.obj S.length), x2, x3, e4', some (.lst (L.map .int)), e6', x7] (S ++ [.lst (fs ++ (roseW here many w).map eE)])
  | [], k, here, many, fs, e4, e6, _, _, _, _ => ⟨e4, e6, by simp [roseW, forL, enumD]⟩
  | s :: w, k, here, many, fs, e4, e6, h1, h2, h3, hl => by
    rw [List.length_cons] at hl
    have step : ∀ there, L[k + 1]? = some there → forL (gT [gN 4, gN 6]) lawB (enumD k ((s :: w).map .int)) [x0, some (.obj S.length), x2, x3, e4, some (.lst (L.map .int)), e6, x7] (S ++ [.lst fs]) =
        forL (gT [gN 4, gN 6]) lawB (enumD (k + 1) (w.map .int)) [x0, some (.obj S.length), x2, x3, some (.int (k : Int)), some (.lst (L.map .int)), some (.int s), x7] (S ++ [.lst (fs ++ [eE (edge here s there)])]) := fun there ht => by
      rw [List.map_cons, enumD]
      conv => lhs; unfold forL
      have hg : gT [gN 4, gN 6] (.tup [.int (k : Int), .int s]) [x0, some (.obj S.length), x2, x3, e4, some (.lst (L.map .int)), e6, x7] = some [x0, some (.obj S.length), x2, x3, some (.int (k : Int)), some (.lst (L.map .int)), some (.int s), x7] := rfl
      rw [hg]
      dsimp only
      rw [lawB_ok k s here there fs h1 ht (by omega)]
    cases w with
    | nil =>
      have h4 : L[k + 1]? = some 0 := h3 (by simp)
      rw [step 0 h4]
      exact ⟨some (.int (k : Int)), some (.int s), by simp [roseW, forL, enumD]⟩
    | cons t w =>
      have h4 : L[k + 1]? = some many := by
        have := h2 0 (by simp)
        simpa using this
      rw [step many h4]
      obtain ⟨e4', e6', e⟩ := law_loop (t :: w) (k + 1) many (many + 1) (fs ++ [eE (edge here s many)]) (some (.int (k : Int))) (some (.int s)) h4 (fun j hj => by
          have := h2 (j + 1) (by simp at hj ⊢; omega)
          have e1 : k + 1 + (j + 1) = k + 1 + 1 + j := by omega
          have e2 : many + ((j + 1 : Nat) : Int) = many + 1 + (j : Int) := by omega
          rw [e1, e2] at this
          exact this) (fun _ => by
          have := h3 (by simp)
          have e1 : k + (s :: t :: w).length = k + 1 + (t :: w).length := by simp; omega
          rw [e1] at this
          exact this) (by rw [List.length_append, List.length_singleton]; omega)
      refine ⟨e4', e6', ?_⟩
      rw [e, List.append_assoc]
      rfl
/-- the places of a loop, one behind another -/
def lineW (many : Int) (w : List Int) : List Int := 0 :: ((List.range (w.length - 1)).map fun k : Nat => many + (k : Int)) ++ [0]
theorem lineW_0 (many : Int) (w : List Int) : (lineW many w)[0]? = some 0 := rfl
theorem lineW_mid (many : Int) (w : List Int) (j : Nat) (h : j + 1 < w.length) : (lineW many w)[0 + 1 + j]? = some (many + (j : Int)) := by
  have e : 0 + 1 + j = j + 1 := by omega
  rw [e]
  show (((List.range (w.length - 1)).map fun k : Nat => many + (k : Int)) ++ [0])[j]? = _
  rw [List.getElem?_append_left (by rw [List.length_map, List.length_range]; omega), List.getElem?_map, List.getElem?_range (by omega)]
  rfl
theorem lineW_end (many : Int) (w : List Int) (h : w ≠ []) : (lineW many w)[0 + w.length]? = some 0 := by
  obtain ⟨n, hn⟩ : ∃ n, w.length = n + 1 := ⟨w.length - 1, by have := List.length_pos_iff.mpr h; omega⟩
  rw [hn, Nat.zero_add]
  show (((List.range (w.length - 1)).map fun k : Nat => many + (k : Int)) ++ [0])[n]? = _
  rw [List.getElem?_append_right (by rw [List.length_map, List.length_range]; omega), List.length_map, List.length_range, hn]
  simp
theorem law_rose_ok (d : D) (ws : List (List Int)) (hd : stL d = some (ws.map dW)) (hl : lenAll ws ≤ 100000) (S : Store) :
    ∃ res : List E3, res.Nodup ∧ (∀ e, e ∈ res ↔ e ∈ rose 1 ws) ∧ F__law_rose [d] S = .ok (.tup [.lst (res.map eE), .int (places 1 ws)]) S := by
  obtain ⟨kvs, res, h1, h2, h3, h4⟩ := edges_sorted S (rose 1 ws) (.int 0)
  refine ⟨res, h1, h2, ?_⟩
  refine fn_pure rfl ?_ (pure_tup fun x hx => ?_)
  · have hsc : ∃ e3 e4 e5 e6 e7, (sSeq (sAsg (eTup (aCons (eLst BX aNil) (aCons (eC (.int 1)) aNil))) (gT [(gN 1), (gN 2)])) (sSeq (sFor (srcV (eVar 0)) (gN 3) (sSeq (sSet 5 (e2 (opAdd FZ) (e2 (opAdd FZ) (eLst FZ (aCons (eC (.int 0)) aNil)) (eLc FZ (srcR1 (e2 (opSub) (eCB (biLen) (aCons (eVar 3) aNil)) (eC (.int 1)))) (gN 4) [4] bYes (e2 (opAdd FZ) (eVar 2) (eVar 4)))) (eLst FZ (aCons (eC (.int 0)) aNil))))
    (sSeq (sSet 2 (e2 (opAdd FZ) (eVar 2) (eCB (biMax) (aCons (eC (.int 0)) (aCons (e2 (opSub) (eCB (biLen) (aCons (eVar 3) aNil)) (eC (.int 1))) aNil)))))
    (sSeq (sFor (srcE (eVar 3)) (gT [(gN 4), (gN 6)]) lawB)
    sNil)))) sNil)) [some d, none, none, none, none, none, none, none] S = .nx [some d, some (.obj S.length), some (.int (places 1 ws)), e3, e4, e5, e6, e7] (S ++ [.lst ((rose 1 ws).map eE)]) := by
      obtain ⟨env', S', e, e3, e4, e5, e6, e7, rfl, rfl⟩ := forL_inv (enc := dW) (g := gN 3) (u := (sSeq (sSet 5 (e2 (opAdd FZ) (e2 (opAdd FZ) (eLst FZ (aCons (eC (.int 0)) aNil)) (eLc FZ (srcR1 (e2 (opSub) (eCB (biLen) (aCons (eVar 3) aNil)) (eC (.int 1)))) (gN 4) [4] bYes (e2 (opAdd FZ) (eVar 2) (eVar 4)))) (eLst FZ (aCons (eC (.int 0)) aNil))))
    (sSeq (sSet 2 (e2 (opAdd FZ) (eVar 2) (eCB (biMax) (aCons (eC (.int 0)) (aCons (e2 (opSub) (eCB (biLen) (aCons (eVar 3) aNil)) (eC (.int 1))) aNil)))))
    (sSeq (sFor (srcE (eVar 3)) (gT [(gN 4), (gN 6)]) lawB)
    sNil)))) ws (fun pre env S' => ∃ e3 e4 e5 e6 e7, env = [some d, some (.obj S.length), some (.int (places 1 pre)), e3, e4, e5, e6, e7] ∧ S' = S ++ [.lst ((rose 1 pre).map eE)]) (fun pre w post env S' e hR => by
        obtain ⟨e3, e4, e5, e6, e7, rfl, rfl⟩ := hR
        have hlen : lenAll pre + w.length ≤ 100000 := by
          rw [e, lenAll_app] at hl
          have : lenAll (w :: post) = w.length + lenAll post := rfl
          omega
        obtain ⟨r1, r2⟩ := rose_app pre [w] 1
        obtain ⟨e4', e6', er⟩ := law_loop (x0 := some d) (x2 := some (.int (places 1 pre + ((w.length - 1 : Nat) : Int)))) (x3 := some (dW w)) (x7 := e7) (S := S) (L := lineW (places 1 pre) w) w 0 0 (places 1 pre) ((rose 1 pre).map eE) e4 e6 (lineW_0 _ _) (lineW_mid _ _) (lineW_end _ _) (by rw [List.length_map, rose_len]; omega)
        refine ⟨[some d, some (.obj S.length), some (.int (places 1 pre)), some (dW w), e4, e5, e6, e7], [some d, some (.obj S.length), some (.int (places 1 pre + ((w.length - 1 : Nat) : Int))), some (dW w), e4', some (.lst ((lineW (places 1 pre) w).map .int)), e6', e7], S ++ [.lst ((rose 1 pre).map eE ++ (roseW 0 (places 1 pre) w).map eE)], rfl, .inl ?_, some (dW w), e4', some (.lst ((lineW (places 1 pre) w).map .int)), e6', e7, ?_, ?_⟩
        · have hlc : (eLc FZ (srcR1 (e2 (opSub) (eCB (biLen) (aCons (eVar 3) aNil)) (eC (.int 1)))) (gN 4) [4] bYes (e2 (opAdd FZ) (eVar 2) (eVar 4))) [some d, some (.obj S.length), some (.int (places 1 pre)), some (dW w), e4, e5, e6, e7] (S ++ [.lst ((rose 1 pre).map eE)]) = .ok (.lst ((List.range (w.length - 1)).map fun k : Nat => D.int (places 1 pre + (k : Int)))) (S ++ [.lst ((rose 1 pre).map eE)]) := by
            refine lc_fz (enc := fun k : Nat => D.int (k : Int)) (as := List.range (w.length - 1)) (S1 := S ++ [.lst ((rose 1 pre).map eE)]) (fun k : Nat => D.int (places 1 pre + (k : Int))) ?_ ?_ ?_
            · refine srcR1_of (a := (w.length : Int) - 1) ?_ (inR_of _ (by omega)) (by omega)
              simp only [eVar, eC, e1, e2, eCB, aNil, aCons, eTup, sNil, sSeq, sAsg, sSet, sExpr, sRet, sRetN, sIf, sPass, sBreak, sCont, bVal, bAnd, bOr, bNot, eIf, eAnd, eOr, sPar, sPar3, sAug, eLst, FZ, BX, gN, gT, gAll, oNone, oSome, conL, seqL, stL, bYes, R.bind_ok, bindS_ok, List.getElem?_cons_zero, List.getElem?_cons_succ, List.length_cons, List.length_nil, Nat.zero_add, List.set_cons_zero, List.set_cons_succ, Option.bind_some, if_true, if_false, Bool.false_eq_true, reduceIte, decide_true, decide_false, Bool.not_true, Bool.not_false, opSub, addI, Hx.opI, opGt, opLt, opGe, opLe, opDiv, opMod, opNeg, biAbs, biInt, biMax, biMin, bi2, biTuple, wipeE, List.map_cons, List.map_nil, List.replicate, List.cons_append, List.nil_append]
              rw [len_dW]
              simp only [eVar, eC, e1, e2, eCB, aNil, aCons, eTup, sNil, sSeq, sAsg, sSet, sExpr, sRet, sRetN, sIf, sPass, sBreak, sCont, bVal, bAnd, bOr, bNot, eIf, eAnd, eOr, sPar, sPar3, sAug, eLst, FZ, BX, gN, gT, gAll, oNone, oSome, conL, seqL, stL, bYes, R.bind_ok, bindS_ok, List.getElem?_cons_zero, List.getElem?_cons_succ, List.length_cons, List.length_nil, Nat.zero_add, List.set_cons_zero, List.set_cons_succ, Option.bind_some, if_true, if_false, Bool.false_eq_true, reduceIte, decide_true, decide_false, Bool.not_true, Bool.not_false, opSub, addI, Hx.opI, opGt, opLt, opGe, opLe, opDiv, opMod, opNeg, biAbs, biInt, biMax, biMin, bi2, biTuple, wipeE, List.map_cons, List.map_nil, List.replicate, List.cons_append, List.nil_append]
            · intro k _
              exact ⟨[some d, some (.obj S.length), some (.int (places 1 pre)), some (dW w), some (.int (k : Int)), e5, e6, e7], rfl, rfl⟩
            · exact small_line (by rw [List.length_range]; omega)
          have hline : (lineW (places 1 pre) w).map D.int = .int 0 :: ((List.range (w.length - 1)).map fun k : Nat => D.int (places 1 pre + (k : Int))) ++ [.int 0] := by
            unfold lineW
            rw [List.map_append, List.map_cons, List.map_map]
            rfl
          refine sq_nx (env' := [some d, some (.obj S.length), some (.int (places 1 pre)), some (dW w), e4, some (.lst ((lineW (places 1 pre) w).map .int)), e6, e7]) (S' := S ++ [.lst ((rose 1 pre).map eE)]) ?_ ?_
          · have l1 : (1 : Nat) ≤ sizeLine := by decide
            simp only [sSet, sAsg, e2, hlc, eLst, eC, aCons, aNil, R.bind_ok, List.length_cons, List.length_nil, Nat.zero_add, l1, if_true, FZ, gN]
            rw [add_lst _ _ _ (by rw [List.length_singleton, List.length_map, List.length_range]; exact small_line (by omega)), R.bind_ok, add_lst _ _ _ (small_line (by simp only [List.length_append, List.length_cons, List.length_nil, List.length_map, List.length_range]; omega)), hline]
            rfl
          refine sq_nx (env' := [some d, some (.obj S.length), some (.int (places 1 pre + ((w.length - 1 : Nat) : Int))), some (dW w), e4, some (.lst ((lineW (places 1 pre) w).map .int)), e6, e7]) (S' := S ++ [.lst ((rose 1 pre).map eE)]) ?_ ?_
          · simp only [eVar, eC, e1, e2, eCB, aNil, aCons, eTup, sNil, sSeq, sAsg, sSet, sExpr, sRet, sRetN, sIf, sPass, sBreak, sCont, bVal, bAnd, bOr, bNot, eIf, eAnd, eOr, sPar, sPar3, sAug, eLst, FZ, BX, gN, gT, gAll, oNone, oSome, conL, seqL, stL, bYes, R.bind_ok, bindS_ok, List.getElem?_cons_zero, List.getElem?_cons_succ, List.length_cons, List.length_nil, Nat.zero_add, List.set_cons_zero, List.set_cons_succ, Option.bind_some, if_true, if_false, Bool.false_eq_true, reduceIte, decide_true, decide_false, Bool.not_true, Bool.not_false, opSub, addI, Hx.opI, opGt, opLt, opGe, opLe, opDiv, opMod, opNeg, biAbs, biInt, biMax, biMin, bi2, biTuple, wipeE, List.map_cons, List.map_nil, List.replicate, List.cons_append, List.nil_append]
            rw [len_dW]
            simp only [eVar, eC, e1, e2, eCB, aNil, aCons, eTup, sNil, sSeq, sAsg, sSet, sExpr, sRet, sRetN, sIf, sPass, sBreak, sCont, bVal, bAnd, bOr, bNot, eIf, eAnd, eOr, sPar, sPar3, sAug, eLst, FZ, BX, gN, gT, gAll, oNone, oSome, conL, seqL, stL, bYes, R.bind_ok, bindS_ok, List.getElem?_cons_zero, List.getElem?_cons_succ, List.length_cons, List.length_nil, Nat.zero_add, List.set_cons_zero, List.set_cons_succ, Option.bind_some, if_true, if_false, Bool.false_eq_true, reduceIte, decide_true, decide_false, Bool.not_true, Bool.not_false, opSub, addI, Hx.opI, opGt, opLt, opGe, opLe, opDiv, opMod, opNeg, biAbs, biInt, biMax, biMin, bi2, biTuple, wipeE, List.map_cons, List.map_nil, List.replicate, List.cons_append, List.nil_append]
            have : (if (0 : Int) < (w.length : Int) - 1 then ((w.length : Int) - 1) else 0) = ((w.length - 1 : Nat) : Int) := by
              by_cases q : (0 : Int) < (w.length : Int) - 1
              · rw [if_pos q]; omega
              · rw [if_neg q]; omega
            simp only [gt_iff_lt, this]
          · exact sq_nx (for_nx (srcE_ok rfl rfl) er) rfl
        · rw [r2]
          rfl
        · rw [r1, List.map_append]
          show S ++ [.lst ((rose 1 pre).map eE ++ (roseW 0 (places 1 pre) w).map eE)] = S ++ [.lst ((rose 1 pre).map eE ++ (roseW 0 (places 1 pre) w ++ []).map eE)]
          rw [List.append_nil]) ws [] [some d, some (.obj S.length), some (.int 1), none, none, none, none, none] (S ++ [.lst []]) rfl ⟨none, none, none, none, none, rfl, rfl⟩
      refine ⟨e3, e4, e5, e6, e7, ?_⟩
      refine sq_nx (env' := [some d, some (.obj S.length), some (.int 1), none, none, none, none, none]) (S' := S ++ [.lst []]) rfl ?_
      exact sq_nx (for_nx (srcV_ok rfl hd) e) rfl
    obtain ⟨e3, e4, e5, e6, e7, hsc⟩ := hsc
    have hsc2 := scope_nx hsc
    have hf : deep S.length (S ++ [.lst ((rose 1 ws).map eE)]) 3 S.length = some (.lst ((rose 1 ws).map eE)) := frz_lst (get_new S _) (Nat.le_refl _) (pureL_of (pure_map fun a _ => rfl))
    refine sq_nx hsc2 ?_
    have hcut : cutE S.length (S ++ [.lst ((rose 1 ws).map eE)]) [some d, some (.obj S.length), some (.int (places 1 ws)), e3, e4, e5, e6, e7] = [(some d).bind (frz S.length (S ++ [.lst ((rose 1 ws).map eE)])), some (.lst ((rose 1 ws).map eE)), some (.int (places 1 ws)), e3.bind (frz S.length (S ++ [.lst ((rose 1 ws).map eE)])), e4.bind (frz S.length (S ++ [.lst ((rose 1 ws).map eE)])), e5.bind (frz S.length (S ++ [.lst ((rose 1 ws).map eE)])), e6.bind (frz S.length (S ++ [.lst ((rose 1 ws).map eE)])), e7.bind (frz S.length (S ++ [.lst ((rose 1 ws).map eE)]))] := by
      unfold cutE
      simp only [List.map_cons, List.map_nil, Option.bind_some]
      have : frz S.length (S ++ [.lst ((rose 1 ws).map eE)]) (.obj S.length) = some (.lst ((rose 1 ws).map eE)) := hf
      rw [this]
      rfl
    rw [hcut]
    generalize (some d).bind (frz S.length (S ++ [.lst ((rose 1 ws).map eE)])) = y0
    generalize e3.bind (frz S.length (S ++ [.lst ((rose 1 ws).map eE)])) = y3
    generalize e4.bind (frz S.length (S ++ [.lst ((rose 1 ws).map eE)])) = y4
    generalize e5.bind (frz S.length (S ++ [.lst ((rose 1 ws).map eE)])) = y5
    generalize e6.bind (frz S.length (S ++ [.lst ((rose 1 ws).map eE)])) = y6
    generalize e7.bind (frz S.length (S ++ [.lst ((rose 1 ws).map eE)])) = y7
    have hlc : (eLc FZ (srcV (eVar 1)) (gN 7) [7] bYes (eTup (aCons (eVar 7) (aCons (eC (.int 0)) aNil)))) [y0, some (.lst ((rose 1 ws).map eE)), some (.int (places 1 ws)), y3, y4, y5, y6, y7] S = .ok (.lst ((rose 1 ws).map fun e => D.tup [eE e, .int 0])) S :=
by
      refine lc_fz (enc := eE) (as := rose 1 ws) (S1 := S) (fun e => D.tup [eE e, .int 0]) (srcV_ok rfl rfl) ?_ (small_line (by rw [rose_len]; omega))
      intro e _
      refine ⟨[y0, some (.lst ((rose 1 ws).map eE)), some (.int (places 1 ws)), y3, y4, y5, y6, some (eE e)], rfl, ?_⟩
      simp only [eVar, eC, e1, e2, eCB, aNil, aCons, eTup, sNil, sSeq, sAsg, sSet, sExpr, sRet, sRetN, sIf, sPass, sBreak, sCont, bVal, bAnd, bOr, bNot, eIf, eAnd, eOr, sPar, sPar3, sAug, eLst, FZ, BX, gN, gT, gAll, oNone, oSome, conL, seqL, stL, bYes, R.bind_ok, bindS_ok, List.getElem?_cons_zero, List.getElem?_cons_succ, List.length_cons, List.length_nil, Nat.zero_add, List.set_cons_zero, List.set_cons_succ, Option.bind_some, if_true, if_false, Bool.false_eq_true, reduceIte, decide_true, decide_false, Bool.not_true, Bool.not_false, opSub, addI, Hx.opI, opGt, opLt, opGe, opLe, opDiv, opMod, opNeg, biAbs, biInt, biMax, biMin, bi2, biTuple, wipeE, List.map_cons, List.map_nil, List.replicate, List.cons_append, List.nil_append]
      rw [if_pos (by decide : (1 + 1 : Nat) ≤ sizeLine)]
    simp only [sSeq, sRet, eTup, eCB, aCons, aNil, hlc, R.bind_ok, h3, h4, eVar, List.getElem?_cons_succ, List.getElem?_cons_zero, List.length_cons, List.length_nil]
    rw [if_pos (by decide : (0 + 1 + 1 : Nat) ≤ sizeLine)]
    rfl
  · simp only [List.mem_cons, List.not_mem_nil, or_false] at hx
    rcases hx with rfl | rfl
    · exact pure_lst (pure_map fun a _ => rfl)
    · rfl
end K48
set_option Elab.async false
set_option linter.all false
set_option maxRecDepth 100000
set_option maxHeartbeats 1000000
namespace K48
open PySem PySem.Spec PyProof.Rows L2 Hx
open FG (E3 edge roseW rose places signs eS Cp St mrg Mg)
theorem eqI (a b : Int) (S : Store) : opEq (.int a) (.int b) S = .ok (.bl (decide (a = b))) S := rfl
theorem putT_ok {S : Store} {i : Nat} {kvs : List (List L2.Key × D)} (h : S[i]? = some (.dT kvs)) (hl : kvs.length < sizeLine) (w : List Int) (d : D) : putD S (.obj i) (dW w) d = some (i, .dT (pt kvs (kW w) d)) := by
  unfold putD
  simp only [h, keyT_W, hl, if_true]
theorem tup2_ok {x y : SE} {env : Ev} {S S1 S2 : Store} {a b : D} (h1 : x env S = .ok a S1) (h2 : y env S1 = .ok b S2) : eTup (aCons x (aCons y aNil)) env S = .ok (.tup [a, b]) S2 := by
  simp only [eTup, aCons, aNil, h1, h2, R.bind_ok, List.length_cons, List.length_nil]
  rw [if_pos (by decide : (0 + 1 + 1 : Nat) ≤ sizeLine)]
theorem tup3_ok {x y z : SE} {env : Ev} {S S1 S2 S3 : Store} {a b c : D} (h1 : x env S = .ok a S1) (h2 : y env S1 = .ok b S2) (h3 : z env S2 = .ok c S3) : eTup (aCons x (aCons y (aCons z aNil))) env S = .ok (.tup [a, b, c]) S3 := by
  simp only [eTup, aCons, aNil, h1, h2, h3, R.bind_ok, List.length_cons, List.length_nil]
  rw [if_pos (by decide : (0 + 1 + 1 + 1 : Nat) ≤ sizeLine)]
theorem dput_ok {f g h : SE} {env : Ev} {S S1 S2 S3 : Store} {x k d c : D} {i : Nat} (e1 : h env S = .ok d S1) (e2 : f env S1 = .ok x S2) (e3 : g env S2 = .ok k S3) (p : putD S3 x k d = some (i, c)) : Hx.sDPut f g h env S = .nx env (S3.set i c) := by
  unfold Hx.sDPut
  rw [e1]
  simp only [bindS_ok, e2, e3, p]
abbrev Kv := List (List L2.Key × D)
def cplK (kvs : Kv) (e1 e2 : E3) : Kv :=
  let k1 := if e1.2.1 = e2.2.1 ∧ e1.1 = e2.1 ∧ e1.2.2 < e2.2.2 then pt kvs (kW [e1.2.2, e2.2.2]) (.int 0) else kvs
  if e1.2.1 = e2.2.1 ∧ e1.2.2 = e2.2.2 ∧ e1.1 < e2.1 then pt k1 (kW [e1.1, e2.1]) (.int 0) else k1
def cplB : SS := (sSeq (sIf (bAnd (bVal (e2 opEq (eVar 3) (eVar 6))) (bAnd (bVal (e2 opEq (eVar 2) (eVar 5))) (bVal (e2 opLt (eVar 4) (eVar 7))))) (sSeq (sDPut (eVar 1) (eTup (aCons (eVar 4) (aCons (eVar 7) aNil))) (eC (.int 0)))
    sNil) sNil)
    (sSeq (sIf (bAnd (bVal (e2 opEq (eVar 3) (eVar 6))) (bAnd (bVal (e2 opEq (eVar 4) (eVar 7))) (bVal (e2 opLt (eVar 2) (eVar 5))))) (sSeq (sDPut (eVar 1) (eTup (aCons (eVar 2) (aCons (eVar 5) aNil))) (eC (.int 0)))
    sNil) sNil)
    sNil))
theorem if3 {c1 c2 c3 : SB} {f : SS} {env : Ev} {S : Store} {p q r : Prop} [Decidable p] [Decidable q] [Decidable r] (h1 : c1 env S = .ok (decide p) S) (h2 : c2 env S = .ok (decide q) S) (h3 : c3 env S = .ok (decide r) S) : sIf (bAnd c1 (bAnd c2 c3)) f sNil env S = if p ∧ q ∧ r then f env S else .nx env S := by
  simp only [sIf, bAnd, h1, R.bind_ok]
  by_cases hp : p
  · simp only [hp, decide_true, if_true, h2, R.bind_ok]
    by_cases hq : q
    · simp only [hq, decide_true, if_true, h3]
      by_cases hr : r
      · simp only [hr, decide_true, if_true, bindS_ok, and_self]
      · simp only [hr, decide_false, bindS_ok, Bool.false_eq_true, if_false, and_false]
        rfl
    · simp only [hq, decide_false, Bool.false_eq_true, if_false, bindS_ok, false_and, and_false]
      rfl
  · simp only [hp, decide_false, Bool.false_eq_true, if_false, bindS_ok, false_and]
    rfl
theorem cplB_ok {x0 : Option D} {S : Store} (e1 e2 : E3) (kvs : Kv) (hl : kvs.length + 2 < sizeLine) :
    cplB [x0, some (.obj S.length), some (.int e1.1), some (.int e1.2.1), some (.int e1.2.2), some (.int e2.1), some (.int e2.2.1), some (.int e2.2.2)] (S ++ [.dT kvs]) = .nx [x0, some (.obj S.length), some (.int e1.1), some (.int e1.2.1), some (.int e1.2.2), some (.int e2.1), some (.int e2.2.1), some (.int e2.2.2)] (S ++ [.dT (cplK kvs e1 e2)]) := by
  have put : ∀ (kvs : Kv) (a b : Int) (env : Ev) (f g : SE), kvs.length < sizeLine → env[1]? = some (some (.obj S.length)) → f env (S ++ [.dT kvs]) = .ok (.int a) (S ++ [.dT kvs]) → g env (S ++ [.dT kvs]) = .ok (.int b) (S ++ [.dT kvs]) →
      (sSeq (sDPut (eVar 1) (eTup (aCons f (aCons g aNil))) (eC (.int 0))) sNil) env (S ++ [.dT kvs]) = .nx env (S ++ [.dT (pt kvs (kW [a, b]) (.int 0))]) := fun kvs a b env f g hk h1 hf hg => by
    have hv : eVar 1 env (S ++ [.dT kvs]) = .ok (.obj S.length) (S ++ [.dT kvs]) := by
      unfold eVar
      rw [h1]
    refine sq_nx (dput_ok (x := .obj S.length) (k := dW [a, b]) (i := S.length) (c := .dT (pt kvs (kW [a, b]) (.int 0))) rfl hv (tup2_ok hf hg) (putT_ok (get_new S _) hk _ _)) ?_
    rw [set_new]
    rfl
  unfold cplB cplK
  refine sq_nx (env' := [x0, some (.obj S.length), some (.int e1.1), some (.int e1.2.1), some (.int e1.2.2), some (.int e2.1), some (.int e2.2.1), some (.int e2.2.2)]) (S' := S ++ [.dT (if e1.2.1 = e2.2.1 ∧ e1.1 = e2.1 ∧ e1.2.2 < e2.2.2 then pt kvs (kW [e1.2.2, e2.2.2]) (.int 0) else kvs)]) ?_ ?_
  · rw [if3 (p := e1.2.1 = e2.2.1) (q := e1.1 = e2.1) (r := e1.2.2 < e2.2.2) rfl rfl rfl]
    by_cases q : e1.2.1 = e2.2.1 ∧ e1.1 = e2.1 ∧ e1.2.2 < e2.2.2
    · rw [if_pos q, if_pos q]
      exact put kvs _ _ _ _ _ (by omega) rfl rfl rfl
    · rw [if_neg q, if_neg q]
  have hk1 : (if e1.2.1 = e2.2.1 ∧ e1.1 = e2.1 ∧ e1.2.2 < e2.2.2 then pt kvs (kW [e1.2.2, e2.2.2]) (D.int 0) else kvs).length < sizeLine := by
    have := pt_len kvs (kW [e1.2.2, e2.2.2]) (D.int 0)
    by_cases q : e1.2.1 = e2.2.1 ∧ e1.1 = e2.1 ∧ e1.2.2 < e2.2.2
    · rw [if_pos q]; omega
    · rw [if_neg q]; omega
  dsimp only
  generalize (if e1.2.1 = e2.2.1 ∧ e1.1 = e2.1 ∧ e1.2.2 < e2.2.2 then pt kvs (kW [e1.2.2, e2.2.2]) (D.int 0) else kvs) = k1 at hk1
  refine sq_nx (env' := [x0, some (.obj S.length), some (.int e1.1), some (.int e1.2.1), some (.int e1.2.2), some (.int e2.1), some (.int e2.2.1), some (.int e2.2.2)]) (S' := S ++ [.dT (if e1.2.1 = e2.2.1 ∧ e1.2.2 = e2.2.2 ∧ e1.1 < e2.1 then pt k1 (kW [e1.1, e2.1]) (.int 0) else k1)]) ?_ rfl
  rw [if3 (p := e1.2.1 = e2.2.1) (q := e1.2.2 = e2.2.2) (r := e1.1 < e2.1) rfl rfl rfl]
  by_cases q : e1.2.1 = e2.2.1 ∧ e1.2.2 = e2.2.2 ∧ e1.1 < e2.1
  · rw [if_pos q, if_pos q]
    exact put k1 _ _ _ _ _ hk1 rfl rfl rfl
  · rw [if_neg q, if_neg q]
/-- what a pair of edges brings -/
def CC (e1 e2 : E3) (w : List Int) : Prop := (e1.2.1 = e2.2.1 ∧ e1.1 = e2.1 ∧ e1.2.2 < e2.2.2 ∧ w = [e1.2.2, e2.2.2]) ∨ (e1.2.1 = e2.2.1 ∧ e1.2.2 = e2.2.2 ∧ e1.1 < e2.1 ∧ w = [e1.1, e2.1])
structure KInv (kvs : Kv) (P : List Int → Prop) (n : Nat) : Prop where
  nd : (kvs.map (·.1)).Nodup
  mem : ∀ k, k ∈ kvs.map (·.1) ↔ ∃ w, k = kW w ∧ P w
  len : kvs.length ≤ n
theorem KInv.nil : KInv [] (fun _ => False) 0 := ⟨List.nodup_nil, fun k => ⟨fun h => by simp at h, fun ⟨_, _, h⟩ => h.elim⟩, Nat.le_refl _⟩
theorem KInv.pt {kvs : Kv} {P : List Int → Prop} {n : Nat} (h : KInv kvs P n) (w : List Int) (d : D) : KInv (pt kvs (kW w) d) (fun x => P x ∨ x = w) (n + 1) := ⟨pt_nodup h.nd _ _, fun k => by
  rw [pt_mem, h.mem]
  constructor
  · rintro (⟨x, rfl, hx⟩ | rfl)
    · exact ⟨x, rfl, .inl hx⟩
    · exact ⟨w, rfl, .inr rfl⟩
  · rintro ⟨x, rfl, hx | rfl⟩
    · exact .inl ⟨x, rfl, hx⟩
    · exact .inr rfl, Nat.le_trans (pt_len _ _ _) (Nat.succ_le_succ h.len)⟩
theorem KInv.congr {kvs : Kv} {P Q : List Int → Prop} {n m : Nat} (h : KInv kvs P n) (e : ∀ w, P w ↔ Q w) (hn : n ≤ m) : KInv kvs Q m := ⟨h.nd, fun k => (h.mem k).trans ⟨fun ⟨w, a, b⟩ => ⟨w, a, (e w).mp b⟩, fun ⟨w, a, b⟩ => ⟨w, a, (e w).mpr b⟩⟩, Nat.le_trans h.len hn⟩
theorem KInv.cpl {kvs : Kv} {P : List Int → Prop} {n : Nat} (h : KInv kvs P n) (e1 e2 : E3) : KInv (cplK kvs e1 e2) (fun x => P x ∨ CC e1 e2 x) (n + 2) := by
  unfold cplK CC
  have h1 : KInv (if e1.2.1 = e2.2.1 ∧ e1.1 = e2.1 ∧ e1.2.2 < e2.2.2 then Hx.pt kvs (kW [e1.2.2, e2.2.2]) (.int 0) else kvs) (fun x => P x ∨ (e1.2.1 = e2.2.1 ∧ e1.1 = e2.1 ∧ e1.2.2 < e2.2.2 ∧ x = [e1.2.2, e2.2.2])) (n + 1) := by
    by_cases q : e1.2.1 = e2.2.1 ∧ e1.1 = e2.1 ∧ e1.2.2 < e2.2.2
    · rw [if_pos q]
      exact (h.pt _ _).congr (fun w => or_congr Iff.rfl ⟨fun z => ⟨q.1, q.2.1, q.2.2, z⟩, fun z => z.2.2.2⟩) (Nat.le_refl _)
    · rw [if_neg q]
      exact h.congr (fun w => ⟨.inl, fun z => z.elim id fun y => absurd ⟨y.1, y.2.1, y.2.2.1⟩ q⟩) (Nat.le_succ _)
  dsimp only
  generalize (if e1.2.1 = e2.2.1 ∧ e1.1 = e2.1 ∧ e1.2.2 < e2.2.2 then Hx.pt kvs (kW [e1.2.2, e2.2.2]) (D.int 0) else kvs) = k1 at h1
  by_cases q : e1.2.1 = e2.2.1 ∧ e1.2.2 = e2.2.2 ∧ e1.1 < e2.1
  · rw [if_pos q]
    exact (h1.pt _ _).congr (fun w => (or_congr Iff.rfl ⟨fun z => ⟨q.1, q.2.1, q.2.2, z⟩, fun z => z.2.2.2⟩).trans or_assoc) (Nat.le_refl _)
  · rw [if_neg q]
    exact h1.congr (fun w => ⟨fun z => z.elim .inl fun y => .inr (.inl y), fun z => z.elim .inl fun y => y.elim .inr fun y => absurd ⟨y.1, y.2.1, y.2.2.1⟩ q⟩) (Nat.le_succ _)
theorem cp_iff {es : List E3} (ha : ∀ e ∈ es, 0 < e.2.1) (w : List Int) : (∃ e1 ∈ es, ∃ e2 ∈ es, CC e1 e2 w) ↔ ∃ a b, w = [a, b] ∧ a < b ∧ Cp (eS es) a b := by
  constructor
  · rintro ⟨⟨p, x, q⟩, h1, ⟨p', x', q'⟩, h2, h | h⟩
    · obtain ⟨k1, k2, k3, rfl⟩ := h
      have k1' : x = x' := k1
      have k2' : p = p' := k2
      subst k1' k2'
      exact ⟨q, q', rfl, k3, p, x, .inl ⟨ha _ h1, h1⟩, .inl ⟨ha _ h1, h2⟩⟩
    · obtain ⟨k1, k2, k3, rfl⟩ := h
      have k1' : x = x' := k1
      have k2' : q = q' := k2
      subst k1' k2'
      have hx := ha _ h1
      refine ⟨p, p', rfl, k3, q, -x, .inr ⟨by show -x < 0; have : 0 < x := hx; omega, ?_⟩, .inr ⟨by show -x < 0; have : 0 < x := hx; omega, ?_⟩⟩
      · show (p, - -x, q) ∈ es
        rw [Int.neg_neg]; exact h1
      · show (p', - -x, q) ∈ es
        rw [Int.neg_neg]; exact h2
  · rintro ⟨a, b, rfl, hab, p, s, h1, h2⟩
    rcases h1 with ⟨k1, h1⟩ | ⟨k1, h1⟩
    · rcases h2 with ⟨_, h2⟩ | ⟨k2, _⟩
      · exact ⟨_, h1, _, h2, .inl ⟨rfl, rfl, hab, rfl⟩⟩
      · omega
    · rcases h2 with ⟨k2, _⟩ | ⟨_, h2⟩
      · omega
      · exact ⟨_, h1, _, h2, .inr ⟨rfl, rfl, hab, rfl⟩⟩
/-- the couples of some edges -/
def Cpl (es : List E3) (l : List (List Int)) : Prop := l.Nodup ∧ ∀ w, w ∈ l ↔ ∃ a b, w = [a, b] ∧ a < b ∧ Cp (eS es) a b
theorem law_couples_ok (es : List E3) (ha : ∀ e ∈ es, 0 < e.2.1) (hl : es.length ≤ 1000) (S : Store) : ∃ l, Cpl es l ∧ F__law_couples [.lst (es.map eE)] S = .ok (.lst ((srtW l).map dW)) S := by
  have big : (4000000 : Nat) ≤ sizeLine := by decide
  suffices h : ∃ (l : List (List Int)) (kvs : Kv), Cpl es l ∧ kvs.map (·.1) = l.map kW ∧ u__law_couples ([D.lst (es.map eE)].map some ++ List.replicate (8 - 1) none) S = .rt (.lst ((srtW l).map dW)) (S ++ [.dT kvs]) by
    obtain ⟨l, kvs, h1, h2, h3⟩ := h
    exact ⟨l, h1, fn_pureT rfl h3 (pure_lst (pure_map fun w _ => dW_pure w))⟩
  obtain ⟨env', S', e, e2, e3, e4, e5, e6, e7, kvs, rfl, rfl, hK⟩ := forL_inv (enc := eE) (g := gT [(gN 2), (gN 3), (gN 4)]) (u := (sSeq (sFor (srcV (eVar 0)) (gT [(gN 5), (gN 6), (gN 7)]) cplB) sNil)) es
    (fun pre env S' => ∃ e2 e3 e4 e5 e6 e7 kvs, env = [some (.lst (es.map eE)), some (.obj S.length), e2, e3, e4, e5, e6, e7] ∧ S' = S ++ [.dT kvs] ∧ KInv kvs (fun w => ∃ e1 ∈ pre, ∃ e2 ∈ es, CC e1 e2 w) (2 * (pre.length * es.length)))
    (fun pre e1 post env S' hes hR => by
      obtain ⟨y2, y3, y4, y5, y6, y7, kvs, rfl, rfl, hK⟩ := hR
      have hpl : pre.length + 1 ≤ es.length := by rw [hes]; simp
      have hpl2 : pre.length * es.length ≤ 999 * 1000 := Nat.mul_le_mul (by omega) hl
      obtain ⟨env', S', e, z5, z6, z7, kvs', rfl, rfl, hK'⟩ := forL_inv (enc := eE) (g := gT [(gN 5), (gN 6), (gN 7)]) (u := cplB) es
        (fun pre2 env S' => ∃ e5 e6 e7 kvs, env = [some (.lst (es.map eE)), some (.obj S.length), some (.int e1.1), some (.int e1.2.1), some (.int e1.2.2), e5, e6, e7] ∧ S' = S ++ [.dT kvs] ∧ KInv kvs (fun w => (∃ e1 ∈ pre, ∃ e2 ∈ es, CC e1 e2 w) ∨ ∃ e2 ∈ pre2, CC e1 e2 w) (2 * (pre.length * es.length) + 2 * pre2.length))
        (fun pre2 e2 post2 env S' hes2 hR => by
          obtain ⟨y5, y6, y7, kvs, rfl, rfl, hK⟩ := hR
          have hpl3 : pre2.length + 1 ≤ es.length := by rw [hes2]; simp
          have hlen := hK.len
          refine ⟨_, _, _, rfl, .inl (cplB_ok e1 e2 kvs (by omega)), _, _, _, _, rfl, rfl, (hK.cpl e1 e2).congr (fun w => ?_) (by simp; omega)⟩
          rw [or_assoc]
          refine or_congr Iff.rfl ⟨?_, ?_⟩
          · rintro (⟨x, hx, hc⟩ | hc)
            · exact ⟨x, List.mem_append_left _ hx, hc⟩
            · exact ⟨e2, List.mem_append_right _ (List.mem_singleton.mpr rfl), hc⟩
          · rintro ⟨x, hx, hc⟩
            rcases List.mem_append.mp hx with hx | hx
            · exact .inl ⟨x, hx, hc⟩
            · rw [List.mem_singleton.mp hx] at hc
              exact .inr hc) es [] [some (.lst (es.map eE)), some (.obj S.length), some (.int e1.1), some (.int e1.2.1), some (.int e1.2.2), y5, y6, y7] (S ++ [.dT kvs]) rfl ⟨_, _, _, kvs, rfl, rfl, hK.congr (fun w => by simp) (by simp)⟩
      refine ⟨[some (.lst (es.map eE)), some (.obj S.length), some (.int e1.1), some (.int e1.2.1), some (.int e1.2.2), y5, y6, y7], _, _, rfl, .inl (sq_nx (for_nx (srcV_ok rfl rfl) e) rfl), _, _, _, _, _, _, kvs', rfl, rfl, hK'.congr (fun w => ?_) (by simp [Nat.add_mul]; omega)⟩
      constructor
      · rintro (⟨x, hx, hc⟩ | hc)
        · exact ⟨x, List.mem_append_left _ hx, hc⟩
        · exact ⟨e1, List.mem_append_right _ (List.mem_singleton.mpr rfl), hc⟩
      · rintro ⟨x, hx, hc⟩
        rcases List.mem_append.mp hx with hx | hx
        · exact .inl ⟨x, hx, hc⟩
        · rw [List.mem_singleton.mp hx] at hc
          exact .inr hc) es [] [some (.lst (es.map eE)), some (.obj S.length), none, none, none, none, none, none] (S ++ [.dT []]) rfl ⟨_, _, _, _, _, _, [], rfl, rfl, KInv.nil.congr (fun w => by simp) (by simp)⟩
  obtain ⟨l, el⟩ := exists_map kW (l := kvs.map (·.1)) (fun k hk => by
    obtain ⟨w, rfl, _⟩ := (hK.mem k).mp hk
    exact ⟨w, rfl⟩)
  have hm : ∀ w, w ∈ l ↔ ∃ e1 ∈ es, ∃ e2 ∈ es, CC e1 e2 w := fun w => by
    have := hK.mem (kW w)
    rw [el, List.mem_map] at this
    constructor
    · intro h
      obtain ⟨x, hx, hc⟩ := this.mp ⟨w, h, rfl⟩
      rw [kW_inj hx]
      exact hc
    · intro h
      obtain ⟨x, hx, hc⟩ := this.mpr ⟨w, rfl, h⟩
      exact kW_inj hc ▸ hx
  have hC : Cpl es l := ⟨nodup_of_map kW (by rw [← el]; exact hK.nd), fun w => (hm w).trans (cp_iff ha w)⟩
  refine ⟨l, kvs, hC, el, ?_⟩
  unfold u__law_couples
  refine sq_nx (env' := [some (.lst (es.map eE)), some (.obj S.length), none, none, none, none, none, none]) (S' := S ++ [.dT []]) rfl ?_
  refine sq_nx (for_nx (srcV_ok rfl rfl) e) ?_
  have hg := get_new S (D.dT kvs)
  have := sorted_dict (S := S ++ [.dT kvs]) (x := .obj S.length) (kvs := kvs) (l := l) (by simp only [conL, hg]) (by simp only [dicK, hg]) (by simp only [dicT, hg]) el (fun w hw => by
    obtain ⟨a, b, rfl, _⟩ := (hC.2 w).mp hw
    simp)
  simp only [sSeq, sRet, eCB, aCons, aNil, eVar, List.getElem?_cons_succ, List.getElem?_cons_zero, R.bind_ok, this, bindS_ok]
end K48
set_option Elab.async false
set_option linter.all false
set_option maxRecDepth 100000
set_option maxHeartbeats 1000000
namespace K48
open PySem PySem.Spec PyProof.Rows L2 Hx
open FG (E3 edge roseW rose places signs eS Cp St mrg Mg Fd Rd)
/-! ### lists beside nothing -/
theorem canLay_ints : ∀ w : List Int, PyData.canLayAll0 (w.map .int) = true
  | [] => by simp [PyData.canLayAll0]
  | a :: w => by simp only [List.map_cons, PyData.canLayAll0, PyData.canLay0, canLay_ints w, Bool.and_self]
theorem canLay_words : ∀ l : List (List Int), PyData.canLayAll0 (l.map pyW) = true ∧ PyData.depthAll (l.map pyW) ≤ 1
  | [] => by simp [PyData.canLayAll0, PyData.depthAll]
  | w :: l => by
    have h := canLay_words l
    refine ⟨?_, ?_⟩
    · simp only [List.map_cons, PyData.canLayAll0, h.1, Bool.and_true]
      show PyData.canLay0 (.tuple _) = true
      rw [PyData.canLay0, canLay_ints]
    · simp only [List.map_cons, PyData.depthAll]
      have : PyData.depth (pyW w) = 1 := by
        show PyData.depth (.tuple _) = 1
        rw [PyData.depth, depth_ints]
      rw [this]
      have := h.2
      omega
theorem pyL_words (g : Nat → Option PyData) : ∀ l : List (List Int), pyL g (l.map dW) = some (l.map pyW)
  | [] => by simp [pyL]
  | w :: l => by
    simp only [List.map_cons, pyL, pyL_words g l]
    have : pyG g (dW w) = some (pyW w) := by
      unfold dW
      simp only [pyG, toPyL_ints, Option.map_some]
      rfl
    rw [this]
theorem toPy_words (S : Store) (l : List (List Int)) : toPy S (.lst (l.map dW)) = some (.list (l.map pyW)) := by
  unfold toPy
  simp only [pyG, pyL_words, Option.map_some]
theorem shaped_words (l : List (List Int)) : SeqAt.shaped (.list (l.map pyW)) = true := by
  unfold SeqAt.shaped
  rw [Bool.and_eq_true, decide_eq_true_eq, PyData.canLay0, PyData.depth]
  have h := canLay_words l
  exact ⟨h.1, by omega⟩
theorem toPy_nil (S : Store) : toPy S (.lst []) = some (.list []) := by
  unfold toPy
  simp [pyG, pyL]
theorem shaped_nil : SeqAt.shaped (.list []) = true := by
  unfold SeqAt.shaped
  simp [PyData.canLay0, PyData.canLayAll0, PyData.depth, PyData.depthAll]
theorem eqv_nil (ps : List PyData) : PyData.eqv (.list ps) (.list []) = ps.isEmpty := by
  cases ps <;> simp [PyData.eqv, PyData.eqvAll]
theorem ne_nil {S : Store} {d : D} {ps : List PyData} (h : toPy S d = some (.list ps)) (hs : SeqAt.shaped (.list ps) = true) : opNe d (.lst []) S = .ok (.bl (!ps.isEmpty)) S := by
  have e : eqD S d (.lst []) = some ps.isEmpty := by
    have key : (match toPy S d, toPy S (.lst []) with
      | some p, some q => if SeqAt.shaped p = true ∧ SeqAt.shaped q = true then some (PyData.eqv p q) else none
      | _, _ => none) = some ps.isEmpty := by
      rw [h, toPy_nil]
      dsimp only
      rw [if_pos ⟨hs, shaped_nil⟩, eqv_nil]
    cases d <;> exact key
  unfold opNe
  rw [e]
theorem ne_words (l : List (List Int)) (S : Store) : opNe (.lst (l.map dW)) (.lst []) S = .ok (.bl (!l.isEmpty)) S := by
  rw [ne_nil (toPy_words S l) (shaped_words l)]
  cases l <;> rfl
theorem lst0 (env : Ev) (S : Store) : eLst FZ aNil env S = .ok (.lst []) S := by
  simp only [eLst, aNil, R.bind_ok, List.length_nil]
  rw [if_pos (by decide : (0 : Nat) ≤ sizeLine)]
  rfl
/-! ### places made one -/
def mE (a b : Int) (e : E3) : E3 := (mrg a b e.1, e.2.1, mrg a b e.2.2)
def Mgd (es : List E3) (a b : Int) (es' : List E3) : Prop := ∀ e, e ∈ es' ↔ ∃ e0 ∈ es, e = mE a b e0
theorem mrg_if {c : SB} {f g : SE} {env : Ev} {S : Store} {a b x : Int} (hc : c env S = .ok (decide (x = b)) S) (hf : f env S = .ok (.int a) S) (hg : g env S = .ok (.int x) S) : eIf c f g env S = .ok (.int (mrg a b x)) S := by
  unfold eIf mrg
  rw [hc, R.bind_ok]
  by_cases q : x = b
  · rw [if_pos (decide_eq_true q), if_pos q]; exact hf
  · rw [if_neg (by rw [decide_eq_true_eq]; exact q), if_neg q]; exact hg
theorem law_merged_ok (es : List E3) (a b : Int) (hl : es.length ≤ 100000) (S : Store) : ∃ res : List E3, res.Nodup ∧ Mgd es a b res ∧ F__law_merged [.lst (es.map eE), dW [a, b]] S = .ok (.lst (res.map eE)) S := by
  obtain ⟨kvs, res, h1, h2, h3, h4⟩ := edges_sorted S (es.map (mE a b)) (.int 0)
  refine ⟨res, h1, fun e => (h2 e).trans (by rw [List.mem_map]; exact ⟨fun ⟨x, hx, z⟩ => ⟨x, hx, z.symm⟩, fun ⟨x, hx, z⟩ => ⟨x, hx, z.symm⟩⟩), ?_⟩
  refine fn_pure rfl ?_ (pure_lst (pure_map fun a _ => rfl))
  unfold u__law_merged
  refine sq_nx (env' := [some (.lst (es.map eE)), some (dW [a, b]), some (.int a), some (.int b), none, none, none, none, none]) (S' := S) rfl ?_
  have hlc : (eLc FZ (srcV (eVar 0)) (gT [(gN 5), (gN 6), (gN 7)]) [5, 6, 7] bYes (eTup (aCons (eIf (bVal (e2 opEq (eVar 5) (eVar 3))) (eVar 2) (eVar 5)) (aCons (eVar 6) (aCons (eIf (bVal (e2 opEq (eVar 7) (eVar 3))) (eVar 2) (eVar 7)) aNil))))) [some (.lst (es.map eE)), some (dW [a, b]), some (.int a), some (.int b), none, none, none, none, none] S = .ok (.lst (es.map fun e => eE (mE a b e))) S := by
    refine lc_fz (enc := eE) (as := es) (S1 := S) (fun e => eE (mE a b e)) (srcV_ok rfl rfl) ?_ (small_line (by omega))
    intro e _
    exact ⟨[some (.lst (es.map eE)), some (dW [a, b]), some (.int a), some (.int b), none, some (.int e.1), some (.int e.2.1), some (.int e.2.2), none], rfl, tup3_ok (mrg_if rfl rfl rfl) rfl (mrg_if rfl rfl rfl)⟩
  refine sq_nx (env' := [some (.lst (es.map eE)), some (dW [a, b]), some (.int a), some (.int b), some (.lst (es.map fun e => eE (mE a b e))), none, none, none, none]) (S' := S) (by simp only [sSet, sAsg, hlc, bindS_ok]; rfl) ?_
  have hlc2 : (eLc FZ (srcV (eVar 4)) (gN 8) [8] bYes (eTup (aCons (eVar 8) (aCons (eC (.int 0)) aNil)))) [some (.lst (es.map eE)), some (dW [a, b]), some (.int a), some (.int b), some (.lst (es.map fun e => eE (mE a b e))), none, none, none, none] S = .ok (.lst ((es.map (mE a b)).map fun e => D.tup [eE e, .int 0])) S := by
    refine lc_fz (enc := eE) (as := es.map (mE a b)) (S1 := S) (fun e => D.tup [eE e, .int 0]) (srcV_ok rfl (by rw [List.map_map]; rfl)) ?_ (small_line (by rw [List.length_map]; omega))
    intro e _
    exact ⟨[some (.lst (es.map eE)), some (dW [a, b]), some (.int a), some (.int b), some (.lst (es.map fun e => eE (mE a b e))), none, none, none, some (eE e)], rfl, tup2_ok rfl rfl⟩
  simp only [sSeq, sRet, eCB, aCons, aNil, hlc2, R.bind_ok, h3, h4, bindS_ok]
/-! ### to read on -/
def onL' (es : List E3) (p s : Int) : Option Int := if 0 < s then ((es.filter fun e => decide (e.1 = p) && decide (e.2.1 = s)).map fun e => e.2.2).head? else ((es.filter fun e => decide (e.2.2 = p) && decide (e.2.1 = 0 - s)).map fun e => e.1).head?
theorem and2 {c1 c2 : SB} {env : Ev} {S : Store} {p q : Bool} (h1 : c1 env S = .ok p S) (h2 : c2 env S = .ok q S) : bAnd c1 c2 env S = .ok (p && q) S := by
  unfold bAnd
  rw [h1, R.bind_ok]
  cases p with
  | true => rw [if_pos rfl, h2]; rfl
  | false => rw [if_neg Bool.false_ne_true]; rfl
theorem ne_ints (l : List Int) (S : Store) : opNe (.lst (l.map .int)) (.lst []) S = .ok (.bl (!l.isEmpty)) S := by
  have h : toPy S (.lst (l.map .int)) = some (.list (l.map .int)) := by
    unfold toPy
    simp only [pyG, toPyL_ints, Option.map_some]
  rw [ne_nil h (by
    unfold SeqAt.shaped
    rw [Bool.and_eq_true, decide_eq_true_eq, PyData.canLay0, PyData.depth, canLay_ints, depth_ints]
    exact ⟨rfl, by decide⟩)]
  cases l <;> rfl
theorem law_on_ok (es : List E3) (p s : Int) (hl : es.length ≤ 100000) (S : Store) : F__law_on [.lst (es.map eE), .int p, .int s] S = .ok (dO (onL' es p s)) S := by
  refine fn_pure rfl ?_ (dO_pure _)
  unfold u__law_on
  have tail : ∀ (l : List Int), (sSeq (sRet (eIf (bVal (e2 opNe (eVar 3) (eLst FZ aNil))) (e2 opIx (eVar 3) (eC (.int 0))) (eC .non))) sNil) [some (.lst (es.map eE)), some (.int p), some (.int s), some (.lst (l.map .int)), none, none, none] S = .rt (dO l.head?) S := fun l => by
    have hb : (bVal (e2 opNe (eVar 3) (eLst FZ aNil))) [some (.lst (es.map eE)), some (.int p), some (.int s), some (.lst (l.map .int)), none, none, none] S = .ok (!l.isEmpty) S := by
      simp only [bVal, e2, eVar, List.getElem?_cons_succ, List.getElem?_cons_zero, R.bind_ok, lst0, ne_ints]
    simp only [sSeq, sRet, eIf, hb, R.bind_ok]
    cases l with
    | nil => rfl
    | cons a r =>
      rw [if_pos (show (!(a :: r).isEmpty) = true from rfl)]
      have : (e2 opIx (eVar 3) (eC (.int 0))) [some (.lst (es.map eE)), some (.int p), some (.int s), some (.lst ((a :: r).map .int)), none, none, none] S = .ok (.int a) S := by
        simp only [e2, eVar, List.getElem?_cons_succ, List.getElem?_cons_zero, R.bind_ok, eC]
        exact opIx_ok (j := 0) rfl rfl
      rw [this]
      rfl
  show sSeq _ _ [some (.lst (es.map eE)), some (.int p), some (.int s), none, none, none, none] S = _
  by_cases q : 0 < s
  · have hlc : (eLc FZ (srcV (eVar 0)) (gT [(gN 4), (gN 5), (gN 6)]) [4, 5, 6] (bAnd (bVal (e2 opEq (eVar 4) (eVar 1))) (bVal (e2 opEq (eVar 5) (eVar 2)))) (eVar 6)) [some (.lst (es.map eE)), some (.int p), some (.int s), none, none, none, none] S = .ok (.lst ((es.filter fun e => decide (e.1 = p) && decide (e.2.1 = s)).map fun e => D.int e.2.2)) S := by
      refine lc_fzp (enc := eE) (as := es) (S1 := S) (fun e => decide (e.1 = p) && decide (e.2.1 = s)) (fun e => D.int e.2.2) (srcV_ok rfl rfl) ?_ (small_line (by omega))
      intro e _
      exact ⟨[some (.lst (es.map eE)), some (.int p), some (.int s), none, some (.int e.1), some (.int e.2.1), some (.int e.2.2)], rfl, and2 rfl rfl, fun _ => rfl⟩
    refine sq_nx (env' := [some (.lst (es.map eE)), some (.int p), some (.int s), some (.lst (((es.filter fun e => decide (e.1 = p) && decide (e.2.1 = s)).map fun e => e.2.2).map .int)), none, none, none]) (S' := S) ?_ ?_
    · have hb : (bVal (e2 opGt (eVar 2) (eC (.int 0)))) [some (.lst (es.map eE)), some (.int p), some (.int s), none, none, none, none] S = .ok true S := by
        simp only [eVar, eC, e1, e2, eCB, aNil, aCons, eTup, sNil, sSeq, sAsg, sSet, sExpr, sRet, sRetN, sIf, sPass, sBreak, sCont, bVal, bAnd, bOr, bNot, eIf, eAnd, eOr, sPar, sPar3, sAug, eLst, FZ, BX, gN, gT, gAll, oNone, oSome, conL, seqL, stL, bYes, R.bind_ok, bindS_ok, List.getElem?_cons_zero, List.getElem?_cons_succ, List.length_cons, List.length_nil, Nat.zero_add, List.set_cons_zero, List.set_cons_succ, Option.bind_some, if_true, if_false, Bool.false_eq_true, reduceIte, decide_true, decide_false, Bool.not_true, Bool.not_false, opSub, addI, Hx.opI, opGt, opLt, opGe, opLe, opDiv, opMod, opNeg, biAbs, biInt, biMax, biMin, bi2, biTuple, wipeE, List.map_cons, List.map_nil, List.replicate, List.cons_append, List.nil_append]
        simp only [q, decide_true]
      rw [sIf, hb, bindS_ok, if_pos rfl]
      refine sq_nx (by simp only [sSet, sAsg, hlc, bindS_ok, gN]; rfl) ?_
      rw [List.map_map]
      rfl
    · rw [tail]
      unfold onL'
      rw [if_pos q]
  · have hlc : (eLc FZ (srcV (eVar 0)) (gT [(gN 4), (gN 5), (gN 6)]) [4, 5, 6] (bAnd (bVal (e2 opEq (eVar 6) (eVar 1))) (bVal (e2 opEq (eVar 5) (e2 (opSub) (eC (.int 0)) (eVar 2))))) (eVar 4)) [some (.lst (es.map eE)), some (.int p), some (.int s), none, none, none, none] S = .ok (.lst ((es.filter fun e => decide (e.2.2 = p) && decide (e.2.1 = 0 - s)).map fun e => D.int e.1)) S := by
      refine lc_fzp (enc := eE) (as := es) (S1 := S) (fun e => decide (e.2.2 = p) && decide (e.2.1 = 0 - s)) (fun e => D.int e.1) (srcV_ok rfl rfl) ?_ (small_line (by omega))
      intro e _
      exact ⟨[some (.lst (es.map eE)), some (.int p), some (.int s), none, some (.int e.1), some (.int e.2.1), some (.int e.2.2)], rfl, and2 rfl rfl, fun _ => rfl⟩
    refine sq_nx (env' := [some (.lst (es.map eE)), some (.int p), some (.int s), some (.lst (((es.filter fun e => decide (e.2.2 = p) && decide (e.2.1 = 0 - s)).map fun e => e.1).map .int)), none, none, none]) (S' := S) ?_ ?_
    · have hb : (bVal (e2 opGt (eVar 2) (eC (.int 0)))) [some (.lst (es.map eE)), some (.int p), some (.int s), none, none, none, none] S = .ok false S := by
        simp only [eVar, eC, e1, e2, eCB, aNil, aCons, eTup, sNil, sSeq, sAsg, sSet, sExpr, sRet, sRetN, sIf, sPass, sBreak, sCont, bVal, bAnd, bOr, bNot, eIf, eAnd, eOr, sPar, sPar3, sAug, eLst, FZ, BX, gN, gT, gAll, oNone, oSome, conL, seqL, stL, bYes, R.bind_ok, bindS_ok, List.getElem?_cons_zero, List.getElem?_cons_succ, List.length_cons, List.length_nil, Nat.zero_add, List.set_cons_zero, List.set_cons_succ, Option.bind_some, if_true, if_false, Bool.false_eq_true, reduceIte, decide_true, decide_false, Bool.not_true, Bool.not_false, opSub, addI, Hx.opI, opGt, opLt, opGe, opLe, opDiv, opMod, opNeg, biAbs, biInt, biMax, biMin, bi2, biTuple, wipeE, List.map_cons, List.map_nil, List.replicate, List.cons_append, List.nil_append]
        simp only [q, decide_false]
      rw [sIf, hb, bindS_ok, if_neg Bool.false_ne_true]
      refine sq_nx (by simp only [sSet, sAsg, hlc, bindS_ok, gN]; rfl) ?_
      rw [List.map_map]
      rfl
    · rw [tail]
      unfold onL'
      rw [if_neg q]
theorem rd_on {es : List E3} (ha : ∀ e ∈ es, 0 < e.2.1) (f : Fd (eS es)) : Rd (eS es) (onL' es) := fun p s q => by
  have head : ∀ (l : List Int), (∀ x ∈ l, ∀ y ∈ l, x = y) → (l.head? = some q ↔ q ∈ l) := fun l hl => by
    cases l with
    | nil => simp
    | cons a r =>
      rw [List.head?_cons, Option.some.injEq]
      exact ⟨fun e => e ▸ List.mem_cons_self, fun h => hl _ List.mem_cons_self _ h⟩
  unfold onL'
  by_cases z : 0 < s
  · rw [if_pos z]
    have mem : ∀ x, x ∈ ((es.filter fun e => decide (e.1 = p) && decide (e.2.1 = s)).map fun e => e.2.2) ↔ (p, s, x) ∈ es := fun x => by
      simp only [List.mem_map, List.mem_filter, Bool.and_eq_true, decide_eq_true_eq]
      constructor
      · rintro ⟨⟨p', s', x'⟩, ⟨h1, h2, h3⟩, h4⟩
        have h2' : p' = p := h2
        have h3' : s' = s := h3
        have h4' : x' = x := h4
        rw [← h2', ← h3', ← h4']
        exact h1
      · exact fun h => ⟨(p, s, x), ⟨h, rfl, rfl⟩, rfl⟩
    rw [head _ fun x hx y hy => f p s x y (.inl ⟨z, (mem x).mp hx⟩) (.inl ⟨z, (mem y).mp hy⟩), mem]
    exact ⟨fun h => .inl ⟨z, h⟩, fun h => h.elim (fun k => k.2) fun k => absurd k.1 (by omega)⟩
  · rw [if_neg z]
    have mem : ∀ x, x ∈ ((es.filter fun e => decide (e.2.2 = p) && decide (e.2.1 = 0 - s)).map fun e => e.1) ↔ (x, 0 - s, p) ∈ es := fun x => by
      simp only [List.mem_map, List.mem_filter, Bool.and_eq_true, decide_eq_true_eq]
      constructor
      · rintro ⟨⟨p', s', x'⟩, ⟨h1, h2, h3⟩, h4⟩
        have h2' : x' = p := h2
        have h3' : s' = 0 - s := h3
        have h4' : p' = x := h4
        rw [← h2', ← h3', ← h4']
        exact h1
      · exact fun h => ⟨(x, 0 - s, p), ⟨h, rfl, rfl⟩, rfl⟩
    have st : ∀ x, (x, 0 - s, p) ∈ es ↔ St (eS es) p s x := fun x => by
      constructor
      · intro h
        have : 0 < 0 - s := ha _ h
        exact .inr ⟨by omega, by rw [← Int.zero_sub]; exact h⟩
      · rintro (⟨h, _⟩ | ⟨_, h⟩)
        · exact absurd h z
        · rw [← Int.zero_sub] at h; exact h
    rw [head _ fun x hx y hy => f p s x y ((st x).mp ((mem x).mp hx)) ((st y).mp ((mem y).mp hy)), mem]
    exact st q
end K48
set_option Elab.async false
set_option linter.all false
set_option maxRecDepth 100000
set_option maxHeartbeats 1000000
namespace K48
open PySem PySem.Spec PyProof.Rows L2 Hx
open FG (E3 edge roseW rose places signs eS Cp St mrg Mg Fd Rd Qt msr occ)
structure PlOk (N n : Nat) (es : List E3) : Prop where
  act : ∀ e ∈ es, 0 < e.2.1 ∧ e.2.1 ≤ (n : Int)
  pl : ∀ e ∈ es, 0 ≤ e.1 ∧ e.1 < (N : Int) ∧ 0 ≤ e.2.2 ∧ e.2.2 < (N : Int)
theorem occ_in {N n : Nat} {es : List E3} (h : PlOk N n es) {a : Int} (ha : occ es a = true) : 0 ≤ a ∧ a < (N : Int) := by
  obtain ⟨e, he, z⟩ := FG.occ_iff.mp ha
  have := h.pl e he
  rcases z with z | z <;> omega
theorem cp_occ {es : List E3} {a b : Int} (h : Cp (eS es) a b) : occ es a = true ∧ occ es b = true := by
  obtain ⟨p, s, h1, h2⟩ := h
  exact ⟨FG.occ_st h1, FG.occ_st h2⟩
theorem PlOk.mgd {N n : Nat} {es es' : List E3} {a b : Int} (h : PlOk N n es) (c : Cp (eS es) a b) (m : Mgd es a b es') : PlOk N n es' := by
  have ha := occ_in h (cp_occ c).1
  have key : ∀ x : Int, 0 ≤ x ∧ x < (N : Int) → 0 ≤ mrg a b x ∧ mrg a b x < (N : Int) := fun x hx => by
    unfold mrg
    by_cases q : x = b
    · rw [if_pos q]; exact ha
    · rw [if_neg q]; exact hx
  refine ⟨fun e he => ?_, fun e he => ?_⟩
  · obtain ⟨e0, h0, rfl⟩ := (m e).mp he
    exact h.act e0 h0
  · obtain ⟨e0, h0, rfl⟩ := (m e).mp he
    obtain ⟨h1, h2, h3, h4⟩ := h.pl e0 h0
    exact ⟨(key _ ⟨h1, h2⟩).1, (key _ ⟨h1, h2⟩).2, (key _ ⟨h3, h4⟩).1, (key _ ⟨h3, h4⟩).2⟩
theorem Mgd.eq {es es' : List E3} {a b : Int} (m : Mgd es a b es') : eS es' = Mg (eS es) a b := by
  funext p c q
  refine propext ⟨fun h => ?_, fun h => ?_⟩
  · obtain ⟨⟨p', c', q'⟩, h0, e⟩ := (m (p, c, q)).mp h
    have e1 : p = mrg a b p' := congrArg (fun x : E3 => x.1) e
    have e2 : c = c' := congrArg (fun x : E3 => x.2.1) e
    have e3 : q = mrg a b q' := congrArg (fun x : E3 => x.2.2) e
    subst e2
    exact ⟨p', q', h0, e1, e3⟩
  · obtain ⟨p', q', h0, e1, e3⟩ := h
    exact (m (p, c, q)).mpr ⟨(p', c, q'), h0, by rw [e1, e3]; rfl⟩
theorem Mgd.len {es es' : List E3} {a b : Int} (m : Mgd es a b es') (hn : es'.Nodup) : es'.length ≤ es.length := by
  have := FG.nodup_le hn (m := es.map (mE a b)) fun x hx => by
    obtain ⟨e0, h0, e⟩ := (m x).mp hx
    exact List.mem_map.mpr ⟨e0, h0, e.symm⟩
  rw [List.length_map] at this
  exact this
theorem Mgd.msr {N n : Nat} {es es' : List E3} {a b : Int} (h : PlOk N n es) (c : Cp (eS es) a b) (hab : a ≠ b) (m : Mgd es a b es') : msr N es' < msr N es :=
  FG.msr_lt hab (occ_in h (cp_occ c).2) (cp_occ c).1 (cp_occ c).2 fun e he => by
    obtain ⟨e0, h0, e⟩ := (m e).mp he
    exact ⟨e0, h0, by rw [e]; exact ⟨rfl, rfl⟩⟩
theorem Cpl.same {es es2 : List E3} (h : ∀ e, e ∈ es ↔ e ∈ es2) {l l2 : List (List Int)} (c : Cpl es l) (c2 : Cpl es2 l2) : srtW l = srtW l2 := by
  have e : eS es = eS es2 := by
    funext p a q
    exact propext (h (p, a, q))
  refine srtW_congr (FG.nodup_perm c.1 c2.1 fun w => (c.2 w).trans ?_)
  rw [e]
  exact (c2.2 w).symm
theorem Cpl.fd {es : List E3} (c : Cpl es []) : Fd (eS es) := FG.fd_of fun a b hab h => by
  have := (c.2 [a, b]).mpr ⟨a, b, rfl, hab, h⟩
  simp at this
/-- the told folds -/
inductive Run : List E3 → List (List Int) → List E3 → Prop
  | stop {es : List E3} : Cpl es [] → Run es [] es
  | step {es es' fin : List E3} {l t fs : List (List Int)} {a b : Int} : Cpl es l → srtW l = [a, b] :: t → Mgd es a b es' → Run es' fs fin → Run es ([a, b] :: fs) fin
theorem Cpl.head {es : List E3} {l t : List (List Int)} {a b : Int} (c : Cpl es l) (h : srtW l = [a, b] :: t) : a < b ∧ Cp (eS es) a b := by
  have : [a, b] ∈ l := mem_srtW.mp (by rw [h]; exact List.mem_cons_self)
  obtain ⟨a', b', e, h1, h2⟩ := (c.2 _).mp this
  simp only [List.cons.injEq, and_true] at e
  obtain ⟨rfl, rfl⟩ := e
  exact ⟨h1, h2⟩
theorem Run.qt {N n : Nat} {es fin : List E3} {fs : List (List Int)} (r : Run es fs fin) : PlOk N n es → Qt (eS es) (eS fin) ∧ Fd (eS fin) ∧ PlOk N n fin ∧ fs.length ≤ msr N es ∧ ∀ w ∈ fs, ∃ a b : Int, w = [a, b] ∧ 0 ≤ a ∧ a < N ∧ 0 ≤ b ∧ b < N := by
  induction r with
  | stop c => exact fun h => ⟨Qt.refl, c.fd, h, Nat.zero_le _, fun w hw => by simp at hw⟩
  | @step es es' fin l t fs a b c e m r ih =>
    intro h
    obtain ⟨h1, h2⟩ := c.head e
    obtain ⟨i1, i2, i3, i4, i5⟩ := ih (h.mgd h2 m)
    have ha := occ_in h (cp_occ h2).1
    have hb := occ_in h (cp_occ h2).2
    have hm := m.msr h h2 (by omega)
    refine ⟨?_, i2, i3, ?_, fun w hw => ?_⟩
    · have q : Qt (eS es) (eS es') := by
        rw [m.eq]
        exact Qt.refl.step h2 (by omega)
      obtain ⟨g, m1, s1⟩ := q.to
      obtain ⟨g', m2, s2⟩ := i1.to
      refine ⟨⟨fun x => g' (g x), m1.comp m2, fun p a q hF => ?_⟩, fun D g f hm => i1.un D g f (q.un D g f hm)⟩
      obtain ⟨p', q', e1, rfl, rfl⟩ := s2 _ _ _ hF
      obtain ⟨p2, q2, e2, rfl, rfl⟩ := s1 _ _ _ e1
      exact ⟨p2, q2, e2, rfl, rfl⟩
    · rw [List.length_cons]; omega
    · rcases List.mem_cons.mp hw with rfl | hw
      · exact ⟨a, b, rfl, ha.1, ha.2, hb.1, hb.2⟩
      · exact i5 w hw
theorem Run.det {es fin : List E3} {fs : List (List Int)} (r : Run es fs fin) : ∀ {es2 fin2 : List E3} {fs2 : List (List Int)}, Run es2 fs2 fin2 → (∀ e, e ∈ es ↔ e ∈ es2) → fs = fs2 ∧ ∀ e, e ∈ fin ↔ e ∈ fin2 := by
  induction r with
  | stop c =>
    intro es2 fin2 fs2 r2 h
    cases r2 with
    | stop c2 => exact ⟨rfl, h⟩
    | step c2 e m r =>
      have := c.same h c2
      rw [e] at this
      have e2 : srtW ([] : List (List Int)) = [] := by simp [srtW]
      rw [e2] at this
      cases this
  | @step es es' fin l t fs a b c e m r ih =>
    intro es2 fin2 fs2 r2 h
    cases r2 with
    | stop c2 =>
      have := c.same h c2
      rw [e] at this
      have e2 : srtW ([] : List (List Int)) = [] := by simp [srtW]
      rw [e2] at this
      cases this
    | @step _ es2' _ l2 t2 fs2 a2 b2 c2 e2 m2 r2 =>
      have q := c.same h c2
      rw [e, e2] at q
      simp only [List.cons.injEq, and_true] at q
      obtain ⟨⟨rfl, rfl⟩, rfl⟩ := q
      obtain ⟨i1, i2⟩ := ih r2 fun x => (m x).trans (Iff.trans ⟨fun ⟨y, hy, z⟩ => ⟨y, (h y).mp hy, z⟩, fun ⟨y, hy, z⟩ => ⟨y, (h y).mpr hy, z⟩⟩ (m2 x).symm)
      exact ⟨by rw [i1], i2⟩
theorem law_folded_told (d : D) (es : List E3) (N n : Nat) (hp : PlOk N n es) (hn : es.Nodup) (hl : es.length ≤ 1000) (hN : N ≤ 1000) (S : Store) :
    ∃ fs fin, Run es fs fin ∧ fin.Nodup ∧ fin.length ≤ 1000 ∧ F__law_folded [d, .lst (es.map eE), .bl true] S = .ok (.tup [.lst (fin.map eE), .tup (fs.map dW)]) S := by
  obtain ⟨l0, c0, ec0⟩ := law_couples_ok es (fun e he => (hp.act e he).1) hl (S ++ [.lst []])
  obtain ⟨env', S', e, x5, fin, fs, rfl, rfl, hn1, hl1, c1, hrun⟩ := sWhile_go (c := (bVal (e2 opNe (eVar 4) (eLst FZ aNil)))) (u := (sSeq (sSet 5 (eIf (bVal (eVar 2)) (e2 opIx (eVar 4) (eC (.int 0))) (eCB F__law_of (aCons (eVar 0) (aCons (eVar 4) aNil)))))
    (sSeq (sSet 5 (eIf (bOr (bVal (eVar 2)) (bOr (bVal (e2 opEq (eCB F__law_pick (aCons (eVar 0) (aCons (eC (.int 2)) aNil))) (eC (.int 0)))) (bVal (e2 opIn (eC (.int 0)) (eVar 5))))) (eVar 5) (eBack FZ (eVar 5))))
    (sSeq (sExpr (eMt ckL mtAppend (eVar 3) (aCons (eVar 5) aNil)))
    (sSeq (sSet 1 (eCB F__law_merged (aCons (eVar 1) (aCons (eVar 5) aNil))))
    (sSeq (sSet 4 (eCB F__law_couples (aCons (eVar 1) aNil)))
    sNil))))))
    (env := [some d, some (.lst (es.map eE)), some (.bl true), some (.obj S.length), some (.lst ((srtW l0).map dW)), none]) (S := S ++ [.lst []])
    (fun m env S' => ∃ x5 cur fs l, m = msr N cur ∧ env = [some d, some (.lst (cur.map eE)), some (.bl true), some (.obj S.length), some (.lst ((srtW l).map dW)), x5] ∧ S' = S ++ [.lst (fs.map dW)] ∧ PlOk N n cur ∧ cur.Nodup ∧ cur.length ≤ 1000 ∧ Cpl cur l ∧ fs.length + m ≤ N ∧ ∀ fs' fin, Run cur fs' fin → Run es (fs ++ fs') fin)
    (fun env S' => ∃ x5 cur fs, env = [some d, some (.lst (cur.map eE)), some (.bl true), some (.obj S.length), some (.lst []), x5] ∧ S' = S ++ [.lst (fs.map dW)] ∧ cur.Nodup ∧ cur.length ≤ 1000 ∧ Cpl cur [] ∧ ∀ fs' fin, Run cur fs' fin → Run es (fs ++ fs') fin)
    (msr N es) (by have := FG.msr_le N es; omega) ⟨none, es, [], l0, rfl, rfl, rfl, hp, hn, hl, c0, by have := FG.msr_le N es; simp; omega, fun fs' fin r => r⟩
    (fun m env S' hR => by
      obtain ⟨x5, cur, fs, l, rfl, rfl, rfl, hp, hn, hl, c, hm, hrun⟩ := hR
      have hb : (bVal (e2 opNe (eVar 4) (eLst FZ aNil))) [some d, some (.lst (cur.map eE)), some (.bl true), some (.obj S.length), some (.lst ((srtW l).map dW)), x5] (S ++ [.lst (fs.map dW)]) = .ok (!(srtW l).isEmpty) (S ++ [.lst (fs.map dW)]) := by
        simp only [bVal, e2, eVar, List.getElem?_cons_succ, List.getElem?_cons_zero, R.bind_ok, lst0, ne_words]
      cases el : srtW l with
      | nil =>
        have l0 : l = [] := by
          have := srtW_len l
          rw [el] at this
          exact List.length_eq_zero_iff.mp this.symm
        subst l0
        rw [el] at hb
        exact .inl ⟨hb, x5, cur, fs, rfl, rfl, hn, hl, c, hrun⟩
      | cons w t =>
        have hw : w ∈ l := mem_srtW.mp (by rw [el]; exact List.mem_cons_self)
        obtain ⟨a, b, rfl, hab, hcp⟩ := (c.2 w).mp hw
        rw [el] at hb
        obtain ⟨res, r1, r2, r3⟩ := law_merged_ok cur a b (by omega) (S ++ [.lst ((fs ++ [[a, b]]).map dW)])
        have hp2 := hp.mgd hcp r2
        obtain ⟨l2, c2, ec2⟩ := law_couples_ok res (fun e he => (hp2.act e he).1) (by have := r2.len r1; omega) (S ++ [.lst ((fs ++ [[a, b]]).map dW)])
        have hms := r2.msr hp hcp (by omega)
        refine .inr ⟨_, _, _, _, hb, ?_, hms, some (dW [a, b]), res, fs ++ [[a, b]], l2, rfl, rfl, rfl, hp2, r1, by have := r2.len r1; omega, c2, by simp; omega, fun fs' fin r => ?_⟩
        · refine sq_nx (env' := [some d, some (.lst (cur.map eE)), some (.bl true), some (.obj S.length), some (.lst (([a, b] :: t).map dW)), some (dW [a, b])]) (S' := S ++ [.lst (fs.map dW)]) ?_ ?_
          · have h0 : opIx (.lst (([a, b] :: t).map dW)) (.int 0) (S ++ [.lst (fs.map dW)]) = .ok (dW [a, b]) (S ++ [.lst (fs.map dW)]) := opIx_ok (j := 0) rfl rfl
            simp only [sSet, sAsg, eIf, bVal, eVar, List.getElem?_cons_succ, List.getElem?_cons_zero, R.bind_ok, if_true, e2, eC, h0, bindS_ok]
            rfl
          refine sq_nx (env' := [some d, some (.lst (cur.map eE)), some (.bl true), some (.obj S.length), some (.lst (([a, b] :: t).map dW)), some (dW [a, b])]) (S' := S ++ [.lst (fs.map dW)]) ?_ ?_
          · rfl
          refine sq_nx (env' := [some d, some (.lst (cur.map eE)), some (.bl true), some (.obj S.length), some (.lst (([a, b] :: t).map dW)), some (dW [a, b])]) (S' := S ++ [.lst ((fs ++ [[a, b]]).map dW)]) ?_ ?_
          · have hg := get_new S (D.lst (fs.map dW))
            simp only [sExpr, eMt, eVar, List.getElem?_cons_succ, List.getElem?_cons_zero, R.bind_ok, ckL_ok hg, if_true, aCons, aNil]
            rw [append_ok _ hg (by rw [List.length_map]; exact Nat.lt_of_lt_of_le (by omega : fs.length < 200000) line_big), set_new, List.map_append]
            rfl
          refine sq_nx (env' := [some d, some (.lst (res.map eE)), some (.bl true), some (.obj S.length), some (.lst (([a, b] :: t).map dW)), some (dW [a, b])]) (S' := S ++ [.lst ((fs ++ [[a, b]]).map dW)]) ?_ ?_
          · simp only [sSet, sAsg, eCB, aCons, aNil, eVar, List.getElem?_cons_succ, List.getElem?_cons_zero, R.bind_ok, r3, bindS_ok]
            rfl
          refine sq_nx (env' := [some d, some (.lst (res.map eE)), some (.bl true), some (.obj S.length), some (.lst ((srtW l2).map dW)), some (dW [a, b])]) (S' := S ++ [.lst ((fs ++ [[a, b]]).map dW)]) ?_ rfl
          simp only [sSet, sAsg, eCB, aCons, aNil, eVar, List.getElem?_cons_succ, List.getElem?_cons_zero, R.bind_ok, ec2, bindS_ok]
          rfl
        · have := hrun _ _ (Run.step c el r2 r)
          rw [List.append_assoc]
          exact this)
  refine ⟨fs, fin, ?_, hn1, hl1, ?_⟩
  · have := hrun [] fin (.stop c1)
    rw [List.append_nil] at this
    exact this
  · refine fn_pureT (T := [.lst (fs.map dW)]) rfl ?_ (pure_tup fun x hx => ?_)
    · refine sq_nx (env' := [some d, some (.lst (es.map eE)), some (.bl true), some (.obj S.length), some (.lst ((srtW l0).map dW)), none]) (S' := S ++ [.lst []]) ?_ ?_
      · show sPar 3 4 _ [some d, some (.lst (es.map eE)), some (.bl true), none, none, none] S = _
        have h0 : eLst BX aNil [some d, some (.lst (es.map eE)), some (.bl true), none, none, none] S = .ok (.obj S.length) (S ++ [.lst []]) := rfl
        simp only [sPar, aCons, aNil, h0, eCB, eVar, List.getElem?_cons_succ, List.getElem?_cons_zero, R.bind_ok, ec0, bindS_ok]
        rfl
      refine sq_nx e ?_
      have hg := get_new S (D.lst (fs.map dW))
      refine sq_rt ?_
      have h1 : (eCB biTuple (aCons (eVar 3) aNil)) [some d, some (.lst (fin.map eE)), some (.bl true), some (.obj S.length), some (.lst []), x5] (S ++ [.lst (fs.map dW)]) = .ok (.tup (fs.map dW)) (S ++ [.lst (fs.map dW)]) := by
        simp only [eCB, aCons, aNil, eVar, List.getElem?_cons_succ, List.getElem?_cons_zero, R.bind_ok, biTuple, seq_obj hg]
      have h2 := tup2_ok (x := eVar 1) (y := (eCB biTuple (aCons (eVar 3) aNil))) (env := [some d, some (.lst (fin.map eE)), some (.bl true), some (.obj S.length), some (.lst []), x5]) (S := (S ++ [.lst (fs.map dW)])) rfl h1
      simp only [sRet, h2, bindS_ok]
    · simp only [List.mem_cons, List.not_mem_nil, or_false] at hx
      rcases hx with rfl | rfl
      · exact pure_lst (pure_map fun a _ => rfl)
      · exact pure_tup (pure_map fun a _ => dW_pure a)
end K48
set_option Elab.async false
set_option linter.all false
set_option maxRecDepth 100000
set_option maxHeartbeats 1000000
namespace K48
open PySem PySem.Spec PyProof.Rows L2 Hx
open FG (E3 edge roseW rose places signs eS Cp St mrg Mg Fd Rd Qt msr occ)
theorem in_ints (x : Int) (w : List Int) (S : Store) : opIn (.int x) (dW w) S = .ok (.bl (decide (x ∈ w))) S := by
  have h1 : (w.map D.int).all flatD = true := by
    rw [List.all_eq_true]
    intro d hd
    obtain ⟨i, _, rfl⟩ := List.mem_map.mp hd
    rfl
  have h2 : inV (Hx.toV (.int x)) ((w.map D.int).map Hx.toV) = decide (x ∈ w) := by
    have h3 : ((w.map D.int).map Hx.toV) = w.map V.int := by rw [List.map_map]; rfl
    rw [h3]
    unfold inV
    rw [List.any_map]
    induction w with
    | nil => rfl
    | cons a r ih =>
      rw [List.any_cons, ih (by
        rw [List.all_eq_true]
        intro d hd
        obtain ⟨i, _, rfl⟩ := List.mem_map.mp hd
        rfl) (by rw [List.map_map]; rfl)]
      show ((a == x) || decide (x ∈ r)) = _
      by_cases q : a = x
      · subst q; simp
      · have : ¬ x = a := fun z => q z.symm
        simp [q, this]
  unfold opIn inD
  rw [seq_dW]
  dsimp only
  rw [if_pos ⟨rfl, h1⟩, h2]
section
variable {rest : Store}
theorem SrcS.set2 {S : Store} {x : D} (h : SrcS (rest ++ [x]) S) (y : D) : SrcS (rest ++ [y]) (S.set (rest.length + 2) y) := h.put y
theorem law_folded_any (es : List E3) (N n : Nat) (hp : PlOk N n es) (hn : es.Nodup) (hl : es.length ≤ 1000) (hN : N ≤ 900) (S : Store) (hS : SrcS rest S) :
    ∃ fin fs S', SrcS rest S' ∧ Qt (eS es) (eS fin) ∧ Fd (eS fin) ∧ PlOk N n fin ∧ fin.Nodup ∧ fin.length ≤ 1000 ∧ F__law_folded [.obj 0, .lst (es.map eE), .bl false] S = .ok (.tup [.lst (fin.map eE), .tup fs]) S' := by
  have hS1 : SrcS (rest ++ [.lst []]) (S ++ [.lst []]) := hS.grow _
  obtain ⟨l0, c0, ec0⟩ := law_couples_ok es (fun e he => (hp.act e he).1) hl (S ++ [.lst []])
  obtain ⟨env', S', e, x5, fin, fs, rfl, hS2, hp1, hn1, hl1, c1, hq, hfp⟩ := sWhile_go (c := (bVal (e2 opNe (eVar 4) (eLst FZ aNil)))) (u := (sSeq (sSet 5 (eIf (bVal (eVar 2)) (e2 opIx (eVar 4) (eC (.int 0))) (eCB F__law_of (aCons (eVar 0) (aCons (eVar 4) aNil)))))
    (sSeq (sSet 5 (eIf (bOr (bVal (eVar 2)) (bOr (bVal (e2 opEq (eCB F__law_pick (aCons (eVar 0) (aCons (eC (.int 2)) aNil))) (eC (.int 0)))) (bVal (e2 opIn (eC (.int 0)) (eVar 5))))) (eVar 5) (eBack FZ (eVar 5))))
    (sSeq (sExpr (eMt ckL mtAppend (eVar 3) (aCons (eVar 5) aNil)))
    (sSeq (sSet 1 (eCB F__law_merged (aCons (eVar 1) (aCons (eVar 5) aNil))))
    (sSeq (sSet 4 (eCB F__law_couples (aCons (eVar 1) aNil)))
    sNil))))))
    (env := [some (.obj 0), some (.lst (es.map eE)), some (.bl false), some (.obj (rest.length + 2)), some (.lst ((srtW l0).map dW)), none]) (S := S ++ [.lst []])
    (fun m env S' => ∃ x5 cur fs l, m = msr N cur ∧ env = [some (.obj 0), some (.lst (cur.map eE)), some (.bl false), some (.obj (rest.length + 2)), some (.lst ((srtW l).map dW)), x5] ∧ SrcS (rest ++ [.lst fs]) S' ∧ PlOk N n cur ∧ cur.Nodup ∧ cur.length ≤ 1000 ∧ Cpl cur l ∧ fs.length + m ≤ N ∧ Qt (eS es) (eS cur) ∧ ∀ x ∈ fs, x.pure = true)
    (fun env S' => ∃ x5 cur fs, env = [some (.obj 0), some (.lst (cur.map eE)), some (.bl false), some (.obj (rest.length + 2)), some (.lst []), x5] ∧ SrcS (rest ++ [.lst fs]) S' ∧ PlOk N n cur ∧ cur.Nodup ∧ cur.length ≤ 1000 ∧ Cpl cur [] ∧ Qt (eS es) (eS cur) ∧ ∀ x ∈ fs, x.pure = true)
    (msr N es) (by have := FG.msr_le N es; omega) ⟨none, es, [], l0, rfl, rfl, hS1, hp, hn, hl, c0, by have := FG.msr_le N es; simp; omega, Qt.refl, fun x hx => by simp at hx⟩
    (fun m env S' hR => by
      obtain ⟨x5, cur, fs, l, rfl, rfl, hS', hp, hn, hl, c, hm, hq, hfp⟩ := hR
      have hb : (bVal (e2 opNe (eVar 4) (eLst FZ aNil))) [some (.obj 0), some (.lst (cur.map eE)), some (.bl false), some (.obj (rest.length + 2)), some (.lst ((srtW l).map dW)), x5] S' = .ok (!(srtW l).isEmpty) S' := by
        simp only [bVal, e2, eVar, List.getElem?_cons_succ, List.getElem?_cons_zero, R.bind_ok, lst0, ne_words]
      by_cases el : l = []
      · subst el
        have e0 : srtW ([] : List (List Int)) = [] := by simp [srtW]
        rw [e0] at hb ⊢
        exact .inl ⟨hb, x5, cur, fs, rfl, hS', hp, hn, hl, c, hq, hfp⟩
      · have hne : (srtW l).map dW ≠ [] := fun z => el (by
          have := srtW_len l
          rw [List.map_eq_nil_iff.mp z] at this
          exact List.length_eq_zero_iff.mp this.symm)
        have hb' : (!(srtW l).isEmpty) = true := by
          cases q : srtW l with
          | nil => rw [q] at hne; exact absurd rfl hne
          | cons a b => rfl
        rw [hb'] at hb
        have hll : ((srtW l).map dW).length < 1000000 := by
          have h1 : ∀ w ∈ srtW l, ∃ a b : Int, w = [a, b] ∧ (0 ≤ a ∧ a < N) ∧ (0 ≤ b ∧ b < N) := fun w hw => by
            obtain ⟨a, b, rfl, _, hcp⟩ := (c.2 w).mp (mem_srtW.mp hw)
            exact ⟨a, b, rfl, occ_in hp (cp_occ hcp).1, occ_in hp (cp_occ hcp).2⟩
          have h2 := FG.nodup_le (srtW_nodup c.1) (m := (List.range N).flatMap fun a : Nat => (List.range N).map fun b : Nat => [(a : Int), (b : Int)]) fun w hw => by
            obtain ⟨a, b, rfl, ha, hb⟩ := h1 w hw
            rw [List.mem_flatMap]
            refine ⟨a.toNat, List.mem_range.mpr (by omega), List.mem_map.mpr ⟨b.toNat, List.mem_range.mpr (by omega), ?_⟩⟩
            have e1 : ((a.toNat : Nat) : Int) = a := by omega
            have e2 : ((b.toNat : Nat) : Int) = b := by omega
            rw [e1, e2]
          have h3 : ((List.range N).flatMap fun a : Nat => (List.range N).map fun b : Nat => [(a : Int), (b : Int)]).length = N * N := by
            rw [List.length_flatMap]
            have : ((List.range N).map fun a : Nat => ((List.range N).map fun b : Nat => [(a : Int), (b : Int)]).length) = List.replicate N N := by
              rw [List.eq_replicate_iff]
              refine ⟨by simp, fun x hx => ?_⟩
              obtain ⟨a, _, rfl⟩ := List.mem_map.mp hx
              simp
            rw [this, List.sum_replicate_nat]
          rw [h3] at h2
          have h4 : N * N ≤ 900 * 900 := Nat.mul_le_mul hN hN
          rw [List.length_map]
          omega
        obtain ⟨x, S1, hS1, hx, eof⟩ := of_law (rest := rest ++ [.lst fs]) (d := .lst ((srtW l).map dW)) (ds := (srtW l).map dW) S' hS' (fun S' _ => rfl) hne (pure_map fun w _ => dW_pure w) hll
        obtain ⟨w, hw, rfl⟩ := List.mem_map.mp hx
        obtain ⟨a, b, rfl, hab, hcp⟩ := (c.2 w).mp (mem_srtW.mp hw)
        have ra := occ_in hp (cp_occ hcp).1
        have rb := occ_in hp (cp_occ hcp).2
        obtain ⟨r, S2, hS2, epk, _, _⟩ := pick_law (rest ++ [.lst fs]) 2 S1 hS1 (by decide)
        -- the couple, one way or the other
        have hway : ∃ x y : Int, ((x = a ∧ y = b) ∨ (x = b ∧ y = a)) ∧ y ≠ 0 ∧ (eIf (bOr (bVal (eVar 2)) (bOr (bVal (e2 opEq (eCB F__law_pick (aCons (eVar 0) (aCons (eC (.int 2)) aNil))) (eC (.int 0)))) (bVal (e2 opIn (eC (.int 0)) (eVar 5))))) (eVar 5) (eBack FZ (eVar 5))) [some (.obj 0), some (.lst (cur.map eE)), some (.bl false), some (.obj (rest.length + 2)), some (.lst ((srtW l).map dW)), some (dW [a, b])] S1 = .ok (dW [x, y]) S2 := by
          have hc : (bOr (bVal (eVar 2)) (bOr (bVal (e2 opEq (eCB F__law_pick (aCons (eVar 0) (aCons (eC (.int 2)) aNil))) (eC (.int 0)))) (bVal (e2 opIn (eC (.int 0)) (eVar 5))))) [some (.obj 0), some (.lst (cur.map eE)), some (.bl false), some (.obj (rest.length + 2)), some (.lst ((srtW l).map dW)), some (dW [a, b])] S1 = .ok (decide (r = 0) || decide ((0 : Int) ∈ [a, b])) S2 := by
            have h1 : (bVal (e2 opEq (eCB F__law_pick (aCons (eVar 0) (aCons (eC (.int 2)) aNil))) (eC (.int 0)))) [some (.obj 0), some (.lst (cur.map eE)), some (.bl false), some (.obj (rest.length + 2)), some (.lst ((srtW l).map dW)), some (dW [a, b])] S1 = .ok (decide (r = 0)) S2 := by
              simp only [bVal, e2, eCB, aCons, aNil, eVar, List.getElem?_cons_succ, List.getElem?_cons_zero, R.bind_ok, eC, epk, eqI]
            have h2 : (bVal (e2 opIn (eC (.int 0)) (eVar 5))) [some (.obj 0), some (.lst (cur.map eE)), some (.bl false), some (.obj (rest.length + 2)), some (.lst ((srtW l).map dW)), some (dW [a, b])] S2 = .ok (decide ((0 : Int) ∈ [a, b])) S2 := by
              simp only [bVal, e2, eVar, List.getElem?_cons_succ, List.getElem?_cons_zero, R.bind_ok, eC, in_ints]
            have h3 : (bVal (eVar 2)) [some (.obj 0), some (.lst (cur.map eE)), some (.bl false), some (.obj (rest.length + 2)), some (.lst ((srtW l).map dW)), some (dW [a, b])] S1 = .ok false S1 := rfl
            simp only [bOr, h3, h1, R.bind_ok, Bool.false_eq_true, if_false]
            cases q : decide (r = 0) with
            | true => simp only [if_true]; rfl
            | false => simp only [Bool.false_eq_true, if_false, h2]; rfl
          by_cases q : (decide (r = 0) || decide ((0 : Int) ∈ [a, b])) = true
          · refine ⟨a, b, .inl ⟨rfl, rfl⟩, by omega, ?_⟩
            simp only [eIf, hc, q, R.bind_ok, if_true]
            rfl
          · refine ⟨b, a, .inr ⟨rfl, rfl⟩, ?_, ?_⟩
            · intro z
              subst z
              simp at q
            · simp only [eIf, hc, R.bind_ok, q, if_false, Bool.false_eq_true]
              rfl
        obtain ⟨x, y, hxy, hy0, hway⟩ := hway
        have hcp2 : Cp (eS cur) x y := by
          rcases hxy with ⟨rfl, rfl⟩ | ⟨rfl, rfl⟩
          · exact hcp
          · exact hcp.symm
        have hxy' : x ≠ y := by
          rcases hxy with ⟨rfl, rfl⟩ | ⟨rfl, rfl⟩ <;> omega
        have hS3 := hS2.put (.lst (fs ++ [dW [x, y]]))
        obtain ⟨res, r1, r2, r3⟩ := law_merged_ok cur x y (by omega) (S2.set (rest.length + 2) (.lst (fs ++ [dW [x, y]])))
        have hp2 := hp.mgd hcp2 r2
        obtain ⟨l2, c2, ec2⟩ := law_couples_ok res (fun e he => (hp2.act e he).1) (by have := r2.len r1; omega) (S2.set (rest.length + 2) (.lst (fs ++ [dW [x, y]])))
        have hms := r2.msr hp hcp2 hxy'
        refine .inr ⟨_, _, _, _, hb, ?_, hms, some (dW [x, y]), res, fs ++ [dW [x, y]], l2, rfl, rfl, hS3, hp2, r1, by have := r2.len r1; omega, c2, by simp; omega, ?_, fun z hz => ?_⟩
        · refine sq_nx (env' := [some (.obj 0), some (.lst (cur.map eE)), some (.bl false), some (.obj (rest.length + 2)), some (.lst ((srtW l).map dW)), some (dW [a, b])]) (S' := S1) ?_ ?_
          · have h3 : ∀ x5, (bVal (eVar 2)) [some (.obj 0), some (.lst (cur.map eE)), some (.bl false), some (.obj (rest.length + 2)), some (.lst ((srtW l).map dW)), x5] S' = .ok false S' := fun _ => rfl
            simp only [sSet, sAsg, eIf, h3, eVar, List.getElem?_cons_succ, List.getElem?_cons_zero, R.bind_ok, Bool.false_eq_true, if_false, eCB, aCons, aNil, eof, bindS_ok]
            rfl
          refine sq_nx (env' := [some (.obj 0), some (.lst (cur.map eE)), some (.bl false), some (.obj (rest.length + 2)), some (.lst ((srtW l).map dW)), some (dW [x, y])]) (S' := S2) ?_ ?_
          · simp only [sSet, sAsg, hway, bindS_ok]
            rfl
          refine sq_nx (env' := [some (.obj 0), some (.lst (cur.map eE)), some (.bl false), some (.obj (rest.length + 2)), some (.lst ((srtW l).map dW)), some (dW [x, y])]) (S' := S2.set (rest.length + 2) (.lst (fs ++ [dW [x, y]]))) ?_ ?_
          · have hg := hS2.at
            simp only [sExpr, eMt, eVar, List.getElem?_cons_succ, List.getElem?_cons_zero, R.bind_ok, ckL_ok hg, if_true, aCons, aNil]
            rw [append_ok _ hg (Nat.lt_of_lt_of_le (by omega : fs.length < 200000) line_big)]
            rfl
          refine sq_nx (env' := [some (.obj 0), some (.lst (res.map eE)), some (.bl false), some (.obj (rest.length + 2)), some (.lst ((srtW l).map dW)), some (dW [x, y])]) (S' := S2.set (rest.length + 2) (.lst (fs ++ [dW [x, y]]))) ?_ ?_
          · simp only [sSet, sAsg, eCB, aCons, aNil, eVar, List.getElem?_cons_succ, List.getElem?_cons_zero, R.bind_ok, r3, bindS_ok]
            rfl
          refine sq_nx (env' := [some (.obj 0), some (.lst (res.map eE)), some (.bl false), some (.obj (rest.length + 2)), some (.lst ((srtW l2).map dW)), some (dW [x, y])]) (S' := S2.set (rest.length + 2) (.lst (fs ++ [dW [x, y]]))) ?_ rfl
          simp only [sSet, sAsg, eCB, aCons, aNil, eVar, List.getElem?_cons_succ, List.getElem?_cons_zero, R.bind_ok, ec2, bindS_ok]
          rfl
        · rw [r2.eq]
          exact hq.step hcp2 hy0
        · rcases List.mem_append.mp hz with hz | hz
          · exact hfp z hz
          · rw [List.mem_singleton.mp hz]
            exact dW_pure _)
  have hpt : (D.tup [.lst (fin.map eE), .tup fs]).pure = true := pure_tup fun x hx => by
    simp only [List.mem_cons, List.not_mem_nil, or_false] at hx
    rcases hx with rfl | rfl
    · exact pure_lst (pure_map fun a _ => rfl)
    · exact pure_tup hfp
  obtain ⟨S3, hS3, ecut⟩ := cut_grown hS hS2 hpt
  refine ⟨fin, fs, S3, hS3, hq, c1.fd, hp1, hn1, hl1, ?_⟩
  have hrun : defF 3 6 u__law_folded [.obj 0, .lst (es.map eE), .bl false] S = .ok (.tup [.lst (fin.map eE), .tup fs]) S' := by
    refine fn_run rfl ?_
    refine sq_nx (env' := [some (.obj 0), some (.lst (es.map eE)), some (.bl false), some (.obj (rest.length + 2)), some (.lst ((srtW l0).map dW)), none]) (S' := S ++ [.lst []]) ?_ ?_
    · show sPar 3 4 _ [some (.obj 0), some (.lst (es.map eE)), some (.bl false), none, none, none] S = _
      have h0 : eLst BX aNil [some (.obj 0), some (.lst (es.map eE)), some (.bl false), none, none, none] S = .ok (.obj (rest.length + 2)) (S ++ [.lst []]) := by
        rw [← hS.len]
        rfl
      simp only [sPar, aCons, aNil, h0, eCB, eVar, List.getElem?_cons_succ, List.getElem?_cons_zero, R.bind_ok, ec0, bindS_ok]
      rfl
    refine sq_nx e ?_
    have hg := hS2.at
    refine sq_rt ?_
    have h1 : (eCB biTuple (aCons (eVar 3) aNil)) [some (.obj 0), some (.lst (fin.map eE)), some (.bl false), some (.obj (rest.length + 2)), some (.lst []), x5] S' = .ok (.tup fs) S' := by
      simp only [eCB, aCons, aNil, eVar, List.getElem?_cons_succ, List.getElem?_cons_zero, R.bind_ok, biTuple, seq_obj hg]
    have h2 := tup2_ok (x := eVar 1) (y := (eCB biTuple (aCons (eVar 3) aNil))) (env := [some (.obj 0), some (.lst (fin.map eE)), some (.bl false), some (.obj (rest.length + 2)), some (.lst []), x5]) (S := S') rfl h1
    simp only [sRet, h2, bindS_ok]
  unfold F__law_folded cutF
  rw [hrun]
  exact ecut
end
end K48
set_option Elab.async false
set_option linter.all false
set_option maxRecDepth 100000
set_option maxHeartbeats 1000000
namespace K48
open PySem PySem.Spec PyProof.Rows L2 Hx
open FG (E3 edge roseW rose places signs eS Cp St mrg Mg Fd Rd Qt msr occ ext stage gr ix)
def oN : Option Nat → D
  | none => .non
  | some k => .int (k : Int)
abbrev dB (b : Option Nat × Option Nat) : D := .tup [oN b.1, oN b.2]
abbrev dR (row : FG.Row) : D := .tup (row.map dB)
abbrev dG (G : List FG.Row) : D := .tup (G.map dR)
theorem oN_pure (o : Option Nat) : (oN o).pure = true := by cases o <;> rfl
theorem dB_pure (b : Option Nat × Option Nat) : (dB b).pure = true := pure_tup fun x hx => by
  simp only [List.mem_cons, List.not_mem_nil, or_false] at hx
  rcases hx with rfl | rfl <;> exact oN_pure _
theorem dR_pure (row : FG.Row) : (dR row).pure = true := pure_tup (pure_map fun b _ => dB_pure b)
theorem dG_pure (G : List FG.Row) : (dG G).pure = true := pure_tup (pure_map fun b _ => dR_pure b)
theorem inD_ints (x : Int) (w : List Int) (S : Store) : inD S (.int x) (.lst (w.map .int)) = some (decide (x ∈ w)) := by
  have h := in_ints x w S
  unfold opIn inD at h
  rw [seq_dW] at h
  unfold inD
  have e : seqL S (.lst (w.map .int)) = some (w.map .int) := rfl
  rw [e]
  dsimp only at h ⊢
  split at h
  · rename_i b hb
    cases h
    exact hb
  · cases h
theorem notIn_ints (x : Int) (w : List Int) (S : Store) : opNotIn (.int x) (.lst (w.map .int)) S = .ok (.bl (!decide (x ∈ w))) S := by
  unfold opNotIn
  rw [inD_ints]
theorem find_idx {L : List Int} {q : Int} (h : q ∈ L) : (L.map D.int).findIdx? (fun z => eqV (Hx.toV z) (Hx.toV (.int q))) = some (L.idxOf q) := by
  rw [List.findIdx?_map]
  have e : ((fun z => eqV (Hx.toV z) (Hx.toV (.int q))) ∘ D.int) = fun z => z == q := by
    funext z
    rfl
  rw [e]
  exact List.findIdx?_eq_some_iff_findIdx_eq.mpr ⟨List.idxOf_lt_length_of_mem h, rfl⟩
theorem index_ok {L : List Int} {q : Int} (h : q ∈ L) (S : Store) : mtIndex (.lst (L.map .int)) [.int q] S = .ok (.int ((L.idxOf q : Nat) : Int)) S := by
  have h1 : (L.map D.int).all flatD = true := by
    rw [List.all_eq_true]
    intro d hd
    obtain ⟨i, _, rfl⟩ := List.mem_map.mp hd
    rfl
  unfold mtIndex
  simp only [conL]
  rw [if_pos ⟨rfl, h1⟩, find_idx h]

/-! ### the graph, as the law numbers it -/
theorem ext_snoc (on : Int → Option Int) (pre : List Int) (s : Int) (l : List Int) : ext (pre ++ [s]) on l = match on s with
    | some q => if q ∈ ext pre on l then ext pre on l else ext pre on l ++ [q]
    | none => ext pre on l := by
  unfold FG.ext
  rw [List.foldl_append]
  rfl
theorem rep_ok (d : D) (c : Bool) (S : Store) : opMulX FZ (.lst [d]) (.int (if c then 1 else 0)) S = .ok (.lst (if c then [d] else [])) S := by
  cases c with
  | true => rfl
  | false => rfl
/-- places that are come to stay few -/
theorem stage_few {es : List E3} {N n : Nat} (hp : PlOk N n es) (h0 : 0 < N) {on : Int → Int → Option Int} (r : Rd (eS es) on) (sg : List Int) (k : Nat) : (stage sg on k).length ≤ N := by
  have h := FG.stage_all (sg := sg) (on := on) (fun p => 0 ≤ p ∧ p < (N : Int)) ⟨by omega, by omega⟩ (fun p s q _ _ e => by
    rcases (r _ _ _).mp e with ⟨_, h⟩ | ⟨_, h⟩
    · have := hp.pl _ h
      exact ⟨this.2.2.1, this.2.2.2⟩
    · have := hp.pl _ h
      exact ⟨this.1, this.2.1⟩) k
  have := FG.nodup_le (FG.stage_nodup (sg := sg) (on := on) k) (m := (List.range N).map fun i : Nat => (i : Int)) fun p hpp => by
    have := h p hpp
    exact List.mem_map.mpr ⟨p.toNat, List.mem_range.mpr (by omega), by omega⟩
  rw [List.length_map, List.length_range] at this
  exact this
theorem stage_fin {sg : List Int} {on : Int → Int → Option Int} {N : Nat} (hf : ∀ k, (stage sg on k).length ≤ N) {k : Nat} (hk : (stage sg on k).length ≤ k) (hkN : k ≤ N) : stage sg on N = stage sg on k := FG.stage_end hk N hkN
def lgB : SS := (sSeq (sSet 5 (eCB F__law_on (aCons (eVar 1) (aCons (e2 opIx (eVar 2) (eVar 3)) (aCons (eVar 4) aNil)))))
    (sSeq (sSet 2 (e2 (opAdd FZ) (eVar 2) (e2 (opMulX FZ) (eLst FZ (aCons (eVar 5) aNil)) (eCB (biInt) (aCons (eAnd (e2 opNotN (eVar 5) (eC .non)) (e2 opNotIn (eVar 5) (eVar 2))) aNil)))))
    sNil))
theorem lgB_ok (es : List E3) (hl : es.length ≤ 100000) (x0 x5 : Option D) (y : List (Option D)) (L : List Int) (k : Nat) (p s : Int) (hk : L[k]? = some p) (hL : L.length ≤ 100000) (S : Store) :
    lgB (x0 :: some (.lst (es.map eE)) :: some (.lst (L.map .int)) :: some (.int (k : Int)) :: some (.int s) :: x5 :: y) S =
      .nx (x0 :: some (.lst (es.map eE)) :: some (.lst ((match onL' es p s with
        | some q => if q ∈ L then L else L ++ [q]
        | none => L).map .int)) :: some (.int (k : Int)) :: some (.int s) :: some (dO (onL' es p s)) :: y) S := by
  unfold lgB
  refine sq_nx (env' := (x0 :: some (.lst (es.map eE)) :: some (.lst (L.map .int)) :: some (.int (k : Int)) :: some (.int s) :: some (dO (onL' es p s)) :: y)) (S' := S) ?_ ?_
  · simp only [sSet, sAsg, eCB, aCons, aNil, e2, eVar, List.getElem?_cons_succ, List.getElem?_cons_zero, R.bind_ok, ix_int hk, law_on_ok es p s hl, bindS_ok]
    rfl
  refine sq_nx (env' := (x0 :: some (.lst (es.map eE)) :: some (.lst ((match onL' es p s with
        | some q => if q ∈ L then L else L ++ [q]
        | none => L).map .int)) :: some (.int (k : Int)) :: some (.int s) :: some (dO (onL' es p s)) :: y)) (S' := S) ?_ rfl
  have e0 : ∀ o, eLst FZ (aCons (eVar 5) aNil) (x0 :: some (.lst (es.map eE)) :: some (.lst (L.map .int)) :: some (.int (k : Int)) :: some (.int s) :: some (dO o) :: y) S = .ok (.lst [dO o]) S := fun o => lst1_ok rfl
  have hadd : ∀ l : List D, l.length ≤ 1 → opAdd FZ (.lst (L.map .int)) (.lst l) S = .ok (.lst (L.map .int ++ l)) S := fun l h => add_lst _ _ _ (by rw [List.length_map]; exact small_line (by omega))
  have hall : ∀ (o : Option Int) (c : Bool), (eAnd (e2 opNotN (eVar 5) (eC .non)) (e2 opNotIn (eVar 5) (eVar 2))) (x0 :: some (.lst (es.map eE)) :: some (.lst (L.map .int)) :: some (.int (k : Int)) :: some (.int s) :: some (dO o) :: y) S = .ok (.bl c) S →
      (e2 (opAdd FZ) (eVar 2) (e2 (opMulX FZ) (eLst FZ (aCons (eVar 5) aNil)) (eCB (biInt) (aCons (eAnd (e2 opNotN (eVar 5) (eC .non)) (e2 opNotIn (eVar 5) (eVar 2))) aNil)))) (x0 :: some (.lst (es.map eE)) :: some (.lst (L.map .int)) :: some (.int (k : Int)) :: some (.int s) :: some (dO o) :: y) S = .ok (.lst (L.map .int ++ if c then [dO o] else [])) S := fun o c h => by
    have hb := cb1_ok (k := biInt) h
    have hm := (e2_ok (k := opMulX FZ) (e0 o) hb).trans (rep_ok (dO o) c S)
    exact (e2_ok (k := opAdd FZ) (f := eVar 2) (a := .lst (L.map .int)) (S1 := S) rfl hm).trans (hadd _ (by cases c <;> simp))
  cases e : onL' es p s with
  | none =>
    refine (set_ok (hall none false ?_)).trans ?_
    · have h2 := e2_ok (k := opNotN) (f := eVar 5) (g := eC .non) (env := (x0 :: some (.lst (es.map eE)) :: some (.lst (L.map .int)) :: some (.int (k : Int)) :: some (.int s) :: some (dO none) :: y)) (S := S) (a := .non) rfl rfl
      rw [notN_non] at h2
      simp only [eAnd, h2, R.bind_ok]
    · simp only [Bool.false_eq_true, if_false, List.append_nil]
      rfl
  | some q =>
    refine (set_ok (hall (some q) (!decide (q ∈ L)) ?_)).trans ?_
    · have h2 := e2_ok (k := opNotN) (f := eVar 5) (g := eC .non) (env := (x0 :: some (.lst (es.map eE)) :: some (.lst (L.map .int)) :: some (.int (k : Int)) :: some (.int s) :: some (dO (some q)) :: y)) (S := S) (a := .int q) rfl rfl
      rw [notN_int] at h2
      simp only [eAnd, h2, R.bind_ok]
      exact (e2_ok (k := opNotIn) (f := eVar 5) (g := eVar 2) (a := .int q) (b := .lst (L.map .int)) (S1 := S) rfl rfl).trans (notIn_ints q L S)
    · by_cases z : q ∈ L
      · simp only [z, decide_true, Bool.not_true, Bool.false_eq_true, if_false, if_true, List.append_nil]
        rfl
      · simp only [z, decide_false, Bool.not_false, if_false, if_true, List.map_append]
        rfl
end K48
set_option Elab.async false
set_option linter.all false
set_option maxRecDepth 100000
set_option maxHeartbeats 1000000
namespace K48
open PySem PySem.Spec PyProof.Rows L2 Hx
open FG (E3 edge roseW rose places signs eS Cp St mrg Mg Fd Rd Qt msr occ ext stage gr ix)
/-- all that the signs lead to is in the line -/
def Full (n : Nat) (on : Int → Int → Option Int) (L : List Int) : Prop := ∀ p ∈ L, ∀ s ∈ signs n, ∀ q, on p s = some q → q ∈ L
theorem ixL_ok (L : List Int) (o : Option Int) (h : ∀ q, o = some q → q ∈ L) (env : Ev) (S : Store) (h2 : env[2]? = some (some (.lst (L.map .int)))) (h11 : env[11]? = some (some (dO o))) :
    (eIf (bVal (e2 opNotN (eVar 11) (eC .non))) (eMt ckL mtIndex (eVar 2) (aCons (eVar 11) aNil)) (eC .non)) env S = .ok (oN (ix L o)) S := by
  have v11 : eVar 11 env S = .ok (dO o) S := by unfold eVar; rw [h11]
  have v2 : eVar 2 env S = .ok (.lst (L.map .int)) S := by unfold eVar; rw [h2]
  cases o with
  | none =>
    rw [eif_no (S1 := S) (bval_ok ((e2_ok v11 rfl).trans (notN_non S)))]
    rfl
  | some q =>
    rw [eif_yes (S1 := S) (bval_ok ((e2_ok v11 rfl).trans (notN_int q S)))]
    exact (mt1_ok v2 rfl v11).trans (index_ok (h q rfl) S)
def rowB : SS := (sSeq (sSet 10 (eLst FZ (aCons (eCB F__law_on (aCons (eVar 1) (aCons (eVar 7) (aCons (eVar 9) aNil)))) (aCons (eCB F__law_on (aCons (eVar 1) (aCons (eVar 7) (aCons (e2 (opSub) (eC (.int 0)) (eVar 9)) aNil)))) aNil))))
    (sSeq (sExpr (eMt ckL mtAppend (eVar 8) (aCons (eCB (biTuple) (aCons (eLc FZ (srcV (eVar 10)) (gN 11) [11] bYes (eIf (bVal (e2 opNotN (eVar 11) (eC .non))) (eMt ckL mtIndex (eVar 2) (aCons (eVar 11) aNil)) (eC .non))) aNil)) aNil)))
    sNil))
theorem rowB_ok (es : List E3) (hl : es.length ≤ 100000) (n : Nat) (L : List Int) (hF : Full n (onL' es) L) (x0 x3 x4 x5 x6 x10 x11 : Option D) (p : Int) (hp : p ∈ L) (a : Nat) (ha : a < n) (i : Nat) (S : Store) (xs : List D) (hg : S[i]? = some (.lst xs)) (hx : xs.length < sizeLine) :
    rowB [x0, some (.lst (es.map eE)), some (.lst (L.map .int)), x3, x4, x5, x6, some (.int p), some (.obj i), some (.int (1 + (a : Int))), x10, x11] S =
      .nx [x0, some (.lst (es.map eE)), some (.lst (L.map .int)), x3, x4, x5, x6, some (.int p), some (.obj i), some (.int (1 + (a : Int))), some (.lst [dO (onL' es p (a + 1)), dO (onL' es p (-(a + 1)))]), x11]
        (S.set i (.lst (xs ++ [dB (ix L (onL' es p (a + 1)), ix L (onL' es p (-(a + 1))))]))) := by
  unfold rowB
  have s1 : ((1 : Int) + (a : Int)) = (a : Int) + 1 := Int.add_comm _ _
  have s2 : (0 - ((1 : Int) + (a : Int))) = -((a : Int) + 1) := by omega
  have m1 : ((a : Int) + 1) ∈ signs n := FG.mem_signs.mpr ⟨by omega, by omega⟩
  have m2 : (-((a : Int) + 1)) ∈ signs n := FG.mem_signs.mpr ⟨by omega, by omega⟩
  refine sq_nx (env' := [x0, some (.lst (es.map eE)), some (.lst (L.map .int)), x3, x4, x5, x6, some (.int p), some (.obj i), some (.int (1 + (a : Int))), some (.lst [dO (onL' es p (a + 1)), dO (onL' es p (-(a + 1)))]), x11]) (S' := S) ?_ ?_
  · refine (set_ok (lst2_ok (a := dO (onL' es p (a + 1))) (b := dO (onL' es p (-(a + 1)))) (S1 := S) (S2 := S) ((cb3_ok rfl rfl rfl).trans ?_) ((cb3_ok (c := .int (0 - (1 + (a : Int)))) rfl rfl rfl).trans ?_))).trans rfl
    · rw [law_on_ok es p _ hl S, s1]
    · rw [law_on_ok es p _ hl S, s2]
  refine sq_nx ?_ rfl
  refine app_st (S1 := S) rfl hg ((cb1_ok (a := .lst [oN (ix L (onL' es p (a + 1))), oN (ix L (onL' es p (-(a + 1))))]) (S1 := S) ?_).trans rfl) hg hx
  refine lc_fz (enc := dO) (as := [onL' es p (a + 1), onL' es p (-(a + 1))]) (S1 := S) (fun o => oN (ix L o)) (srcV_ok rfl rfl) (fun o ho => ?_) (small_line (by simp))
  refine ⟨[x0, some (.lst (es.map eE)), some (.lst (L.map .int)), x3, x4, x5, x6, some (.int p), some (.obj i), some (.int (1 + (a : Int))), some (.lst [dO (onL' es p (a + 1)), dO (onL' es p (-(a + 1)))]), some (dO o)], rfl, ?_⟩
  refine ixL_ok L o (fun q hq => ?_) _ S rfl rfl
  simp only [List.mem_cons, List.not_mem_nil, or_false] at ho
  rcases ho with rfl | rfl
  · exact hF p hp _ m1 q hq
  · exact hF p hp _ m2 q hq
theorem law_graph_ok (es : List E3) (N n : Nat) (hp : PlOk N n es) (h0 : 0 < N) (hN : N ≤ 1000) (hn : n ≤ 100) (hl : es.length ≤ 1000) (f : Fd (eS es)) (S : Store) :
    F__law_graph [.int (n : Int), .lst (es.map eE)] S = .ok (dG (gr n (onL' es) (stage (signs n) (onL' es) N))) S := by
  have rd := rd_on (fun e he => (hp.act e he).1) f
  have few := stage_few hp h0 rd (signs n)
  suffices h : ∃ T, u__law_graph ([D.int (n : Int), .lst (es.map eE)].map some ++ List.replicate (12 - 2) none) S = .rt (dG (gr n (onL' es) (stage (signs n) (onL' es) N))) (S ++ T) by
    obtain ⟨T, h⟩ := h
    exact fn_pureT rfl h (dG_pure _)
  obtain ⟨env1, S1, e1, x4, x5, L, rfl, rfl, eL, hF⟩ := sWhile_go (c := (bVal (e2 opLt (eVar 3) (eCB (biLen) (aCons (eVar 2) aNil))))) (u := (sSeq (sFor (srcV (eCB F__law_signs (aCons (eVar 0) aNil))) (gN 4) lgB) (sSeq (sSet 3 (e2 (opAdd FZ) (eVar 3) (eC (.int 1)))) sNil)))
    (env := [some (.int (n : Int)), some (.lst (es.map eE)), some (.lst (([0] : List Int).map .int)), some (.int ((0 : Nat) : Int)), none, none, none, none, none, none, none, none]) (S := S)
    (fun m env S' => ∃ x4 x5 k, m = N - k ∧ k ≤ (stage (signs n) (onL' es) k).length ∧ env = [some (.int (n : Int)), some (.lst (es.map eE)), some (.lst ((stage (signs n) (onL' es) k).map .int)), some (.int (k : Int)), x4, x5, none, none, none, none, none, none] ∧ S' = S)
    (fun env S' => ∃ x4 x5 L, env = [some (.int (n : Int)), some (.lst (es.map eE)), some (.lst (L.map .int)), some (.int ((L.length : Nat) : Int)), x4, x5, none, none, none, none, none, none] ∧ S' = S ∧ stage (signs n) (onL' es) N = L ∧ Full n (onL' es) L)
    N (by omega) ⟨none, none, 0, rfl, Nat.zero_le _, rfl, rfl⟩ (fun m env S' hR => by
      obtain ⟨x4, x5, k, rfl, hk, rfl, rfl⟩ := hR
      have hb : (bVal (e2 opLt (eVar 3) (eCB (biLen) (aCons (eVar 2) aNil)))) [some (.int (n : Int)), some (.lst (es.map eE)), some (.lst ((stage (signs n) (onL' es) k).map .int)), some (.int (k : Int)), x4, x5, none, none, none, none, none, none] S' = .ok (decide ((k : Int) < ((stage (signs n) (onL' es) k).length : Nat))) S' := by
        refine bval_ok ((e2_ok (a := .int (k : Int)) (b := .int ((stage (signs n) (onL' es) k).length : Nat)) (S1 := S') (S2 := S') rfl ?_).trans rfl)
        refine (cb1_ok rfl).trans ((len_ok (ds := (stage (signs n) (onL' es) k).map .int) rfl).trans ?_)
        rw [List.length_map]
      have hfew := few k
      by_cases q : k < (stage (signs n) (onL' es) k).length
      · obtain ⟨p, hpk⟩ : ∃ p, (stage (signs n) (onL' es) k)[k]? = some p := ⟨_, List.getElem?_eq_getElem q⟩
        have hst : stage (signs n) (onL' es) (k + 1) = ext (signs n) (onL' es p) (stage (signs n) (onL' es) k) := by
          show (match (stage (signs n) (onL' es) k)[k]? with
            | some p => ext (signs n) (onL' es p) (stage (signs n) (onL' es) k)
            | none => stage (signs n) (onL' es) k) = _
          rw [hpk]
        have hlen1 : (stage (signs n) (onL' es) k).length ≤ (stage (signs n) (onL' es) (k + 1)).length := by
          obtain ⟨r, er⟩ := FG.stage_pre1 (sg := signs n) (on := onL' es) k
          rw [er, List.length_append]
          omega
        refine .inr ?_
        obtain ⟨env2, S2, e2, y4, y5, rfl, rfl⟩ := forL_inv (enc := D.int) (g := gN 4) (u := lgB) (signs n) (fun pre env S2 => ∃ y4 y5, env = [some (.int (n : Int)), some (.lst (es.map eE)), some (.lst ((ext pre (onL' es p) (stage (signs n) (onL' es) k)).map .int)), some (.int (k : Int)), y4, y5, none, none, none, none, none, none] ∧ S2 = S')
          (fun pre s post env S2 hsg hR => by
            obtain ⟨y4, y5, rfl, rfl⟩ := hR
            obtain ⟨r, er⟩ := FG.ext_pre (onL' es p) pre (stage (signs n) (onL' es) k)
            have hle : (ext pre (onL' es p) (stage (signs n) (onL' es) k)).length ≤ N := by
              obtain ⟨t, et⟩ := FG.ext_pre (onL' es p) (s :: post) (ext pre (onL' es p) (stage (signs n) (onL' es) k))
              have : ext (signs n) (onL' es p) (stage (signs n) (onL' es) k) = ext (s :: post) (onL' es p) (ext pre (onL' es p) (stage (signs n) (onL' es) k)) := by
                rw [hsg]
                unfold FG.ext
                rw [List.foldl_append]
              rw [← hst, et] at this
              have h2 := few (k + 1)
              rw [this, List.length_append] at h2
              omega
            refine ⟨[some (.int (n : Int)), some (.lst (es.map eE)), some (.lst ((ext pre (onL' es p) (stage (signs n) (onL' es) k)).map .int)), some (.int (k : Int)), some (.int s), y5, none, none, none, none, none, none], _, _, rfl, .inl (lgB_ok es (by omega) _ _ _ _ k p s (by rw [er, List.getElem?_append_left q]; exact hpk) (by omega) S2), some (.int s), some (dO (onL' es p s)), ?_, rfl⟩
            rw [ext_snoc]) (signs n) [] [some (.int (n : Int)), some (.lst (es.map eE)), some (.lst ((stage (signs n) (onL' es) k).map .int)), some (.int (k : Int)), x4, x5, none, none, none, none, none, none] S' rfl ⟨x4, x5, rfl, rfl⟩
        refine ⟨_, _, _, N - (k + 1), (by rw [hb]; rw [decide_eq_true (show (k : Int) < ((stage (signs n) (onL' es) k).length : Nat) by omega)]), sq_nx (for_nx (srcV_ok ((cb1_ok rfl).trans (signs_law n (by omega) S2)) rfl) e2) rfl, by omega, y4, y5, k + 1, rfl, by omega, ?_, rfl⟩
        rw [hst]
        rfl
      · have hk2 : (stage (signs n) (onL' es) k).length = k := by omega
        have hN2 := stage_fin few (k := k) (by omega) (by omega)
        refine .inl ⟨by rw [hb, decide_eq_false (show ¬ (k : Int) < ((stage (signs n) (onL' es) k).length : Nat) by omega)], x4, x5, stage (signs n) (onL' es) k, by rw [hk2], rfl, hN2, fun p hp s hs q hq => FG.stage_full (by omega) hp hs hq⟩)
  obtain ⟨env2, S2, e2, y7, y8, y9, y10, y11, T, rfl, rfl⟩ := forL_inv (enc := D.int) (g := gN 7) (u := (sSeq (sSet 8 (eLst BX aNil))
    (sSeq (sFor (srcR2 (eC (.int 1)) (e2 (opAdd FZ) (eVar 0) (eC (.int 1)))) (gN 9) rowB)
    (sSeq (sExpr (eMt ckL mtAppend (eVar 6) (aCons (eCB (biTuple) (aCons (eVar 8) aNil)) aNil)))
    sNil)))) L (fun pre env S2 => ∃ y7 y8 y9 y10 y11 T, env = [some (.int (n : Int)), some (.lst (es.map eE)), some (.lst (L.map .int)), some (.int ((L.length : Nat) : Int)), x4, x5, some (.obj S1.length), y7, y8, y9, y10, y11] ∧ S2 = S1 ++ .lst ((gr n (onL' es) L).map dR |>.take pre.length) :: T) (fun pre p post env S2 hLp hR => by
      obtain ⟨y7, y8, y9, y10, y11, T, rfl, rfl⟩ := hR
      have hpL : p ∈ L := by rw [hLp]; simp
      have hll : L.length ≤ N := by rw [← eL]; exact few N
      have hpl : pre.length < L.length := by rw [hLp]; simp
      generalize hfo : ((gr n (onL' es) L).map dR |>.take pre.length) = fo
      have hfl : fo.length = pre.length := by
        rw [← hfo, List.length_take, List.length_map, FG.gr_length]
        omega
      obtain ⟨env3, S3, e3, z9, z10, z11, rfl, rfl⟩ := forL_inv (enc := fun a : Nat => D.int (1 + (a : Int))) (g := gN 9) (u := rowB) (List.range n) (fun pre2 env S3 => ∃ z9 z10 z11, env = [some (.int (n : Int)), some (.lst (es.map eE)), some (.lst (L.map .int)), some (.int ((L.length : Nat) : Int)), x4, x5, some (.obj S1.length), some (.int p), some (.obj (S1 ++ .lst fo :: T).length), z9, z10, z11] ∧ S3 = (S1 ++ .lst fo :: T) ++ [.lst (pre2.map fun a : Nat => dB (ix L (onL' es p ((a : Int) + 1)), ix L (onL' es p (-((a : Int) + 1)))))])
        (fun pre2 a post2 env S3 hr hR => by
          obtain ⟨z9, z10, z11, rfl, rfl⟩ := hR
          have ha : a < n := by
            have : a ∈ List.range n := by rw [hr]; simp
            exact List.mem_range.mp this
          have hpl2 : pre2.length < n := by
            have := congrArg List.length hr
            simp at this
            omega
          refine ⟨[some (.int (n : Int)), some (.lst (es.map eE)), some (.lst (L.map .int)), some (.int ((L.length : Nat) : Int)), x4, x5, some (.obj S1.length), some (.int p), some (.obj (S1 ++ .lst fo :: T).length), some (.int (1 + (a : Int))), z10, z11], _, _, rfl, .inl (rowB_ok es (by omega) n L hF _ _ _ _ _ _ _ p hpL a ha _ _ _ (get_new _ _) (Nat.lt_of_lt_of_le (by rw [List.length_map]; omega : _ < 200000) line_big)), _, _, _, rfl, ?_⟩
          rw [set_new, List.map_append]
          rfl) (List.range n) [] [some (.int (n : Int)), some (.lst (es.map eE)), some (.lst (L.map .int)), some (.int ((L.length : Nat) : Int)), x4, x5, some (.obj S1.length), some (.int p), some (.obj (S1 ++ .lst fo :: T).length), y9, y10, y11] ((S1 ++ .lst fo :: T) ++ [.lst []]) rfl ⟨y9, y10, y11, rfl, rfl⟩
      have hrow : ((List.range n).map fun a : Nat => dB (ix L (onL' es p ((a : Int) + 1)), ix L (onL' es p (-((a : Int) + 1))))) = ((List.range n).map fun a : Nat => (ix L (onL' es p ((a : Int) + 1)), ix L (onL' es p (-((a : Int) + 1))))).map dB := by rw [List.map_map]; rfl
      have hat : ((gr n (onL' es) L).map dR)[pre.length]? = some (dR ((List.range n).map fun a : Nat => (ix L (onL' es p ((a : Int) + 1)), ix L (onL' es p (-((a : Int) + 1)))))) := by
        unfold FG.gr
        rw [List.getElem?_map, List.getElem?_map, hLp, List.getElem?_append_right (Nat.le_refl _), Nat.sub_self]
        rfl
      refine ⟨[some (.int (n : Int)), some (.lst (es.map eE)), some (.lst (L.map .int)), some (.int ((L.length : Nat) : Int)), x4, x5, some (.obj S1.length), some (.int p), y8, y9, y10, y11], [some (.int (n : Int)), some (.lst (es.map eE)), some (.lst (L.map .int)), some (.int ((L.length : Nat) : Int)), x4, x5, some (.obj S1.length), some (.int p), some (.obj (S1 ++ .lst fo :: T).length), z9, z10, z11],
        S1 ++ .lst ((gr n (onL' es) L).map dR |>.take (pre ++ [p]).length) :: (T ++ [.lst ((List.range n).map fun a : Nat => dB (ix L (onL' es p ((a : Int) + 1)), ix L (onL' es p (-((a : Int) + 1)))))]), rfl, .inl ?_, _, _, _, _, _, _, rfl, rfl⟩
      refine sq_nx (env' := [some (.int (n : Int)), some (.lst (es.map eE)), some (.lst (L.map .int)), some (.int ((L.length : Nat) : Int)), x4, x5, some (.obj S1.length), some (.int p), some (.obj (S1 ++ .lst fo :: T).length), y9, y10, y11]) (S' := (S1 ++ .lst fo :: T) ++ [.lst []]) rfl ?_
      refine sq_nx (for_nx (srcR2_ok rfl rfl (inR_of _ (by omega)) (inR_of _ (by omega)) (by omega)) e3) ?_
      refine sq_nx ?_ rfl
      have hg1 : ((S1 ++ .lst fo :: T) ++ [.lst ((List.range n).map fun a : Nat => dB (ix L (onL' es p ((a : Int) + 1)), ix L (onL' es p (-((a : Int) + 1)))))])[S1.length]? = some (.lst fo) := get_pre (by rw [List.getElem?_append_right (Nat.le_refl _), Nat.sub_self]; rfl)
      have hg2 := get_new (S1 ++ .lst fo :: T) (.lst ((List.range n).map fun a : Nat => dB (ix L (onL' es p ((a : Int) + 1)), ix L (onL' es p (-((a : Int) + 1))))))
      have htup := (cb1_ok (k := biTuple) (f := eVar 8) (env := [some (.int (n : Int)), some (.lst (es.map eE)), some (.lst (L.map .int)), some (.int ((L.length : Nat) : Int)), x4, x5, some (.obj S1.length), some (.int p), some (.obj (S1 ++ .lst fo :: T).length), z9, z10, z11]) (S := ((S1 ++ .lst fo :: T) ++ [.lst ((List.range n).map fun a : Nat => dB (ix L (onL' es p ((a : Int) + 1)), ix L (onL' es p (-((a : Int) + 1)))))])) rfl).trans (show biTuple [.obj (S1 ++ .lst fo :: T).length] ((S1 ++ .lst fo :: T) ++ [.lst ((List.range n).map fun a : Nat => dB (ix L (onL' es p ((a : Int) + 1)), ix L (onL' es p (-((a : Int) + 1)))))]) = .ok (.tup ((List.range n).map fun a : Nat => dB (ix L (onL' es p ((a : Int) + 1)), ix L (onL' es p (-((a : Int) + 1)))))) ((S1 ++ .lst fo :: T) ++ [.lst ((List.range n).map fun a : Nat => dB (ix L (onL' es p ((a : Int) + 1)), ix L (onL' es p (-((a : Int) + 1)))))]) by
        simp only [biTuple, seq_obj hg2])
      have hlt : fo.length < sizeLine := Nat.lt_of_lt_of_le (by omega : fo.length < 200000) line_big
      generalize hST : ((S1 ++ .lst fo :: T) ++ [.lst ((List.range n).map fun a : Nat => dB (ix L (onL' es p ((a : Int) + 1)), ix L (onL' es p (-((a : Int) + 1)))))]) = ST at hg1 htup
      have hv6 : eVar 6 [some (.int (n : Int)), some (.lst (es.map eE)), some (.lst (L.map .int)), some (.int ((L.length : Nat) : Int)), x4, x5, some (.obj S1.length), some (.int p), some (.obj (S1 ++ .lst fo :: T).length), z9, z10, z11] ST = .ok (.obj S1.length) ST := rfl
      have happ := app_st hv6 hg1 htup hg1 hlt
      rw [happ, ← hST]
      refine congrArg (SR.nx _) ?_
      rw [List.append_assoc, List.cons_append, List.set_append_right _ _ (Nat.le_refl _), Nat.sub_self]
      have htk : ((gr n (onL' es) L).map dR).take (pre ++ [p]).length = fo ++ [D.tup ((List.range n).map fun a : Nat => dB (ix L (onL' es p ((a : Int) + 1)), ix L (onL' es p (-((a : Int) + 1)))))] := by
        rw [List.length_append, List.length_singleton, List.take_succ, hat, hfo, hrow]
        rfl
      rw [htk]
      rfl) L [] [some (.int (n : Int)), some (.lst (es.map eE)), some (.lst (L.map .int)), some (.int ((L.length : Nat) : Int)), x4, x5, some (.obj S1.length), none, none, none, none, none] (S1 ++ [.lst []]) rfl ⟨none, none, none, none, none, [], rfl, rfl⟩
  refine ⟨.lst ((gr n (onL' es) L).map dR |>.take L.length) :: T, ?_⟩
  rw [eL]
  refine sq_nx (env' := [some (.int (n : Int)), some (.lst (es.map eE)), some (.lst (([0] : List Int).map .int)), some (.int ((0 : Nat) : Int)), none, none, none, none, none, none, none, none]) (S' := S1) ?_ ?_
  · show sAsg _ _ [some (.int (n : Int)), some (.lst (es.map eE)), none, none, none, none, none, none, none, none, none, none] S1 = _
    have := tup2_ok (x := (eLst FZ (aCons (eC (.int 0)) aNil))) (y := eC (.int 0)) (env := [some (.int (n : Int)), some (.lst (es.map eE)), none, none, none, none, none, none, none, none, none, none]) (S := S1) (lst1_ok rfl) rfl
    simp only [sAsg, this, bindS_ok]
    rfl
  refine sq_nx e1 ?_
  refine sq_nx (env' := [some (.int (n : Int)), some (.lst (es.map eE)), some (.lst (L.map .int)), some (.int ((L.length : Nat) : Int)), x4, x5, some (.obj S1.length), none, none, none, none, none]) (S' := S1 ++ [.lst []]) rfl ?_
  refine sq_nx (for_nx (srcV_ok rfl rfl) e2) ?_
  refine sq_rt (ret_ok ((cb1_ok rfl).trans ?_))
  have hg : (S1 ++ .lst ((gr n (onL' es) L).map dR |>.take L.length) :: T)[S1.length]? = some (.lst ((gr n (onL' es) L).map dR)) := by
    rw [List.getElem?_append_right (Nat.le_refl _), Nat.sub_self, List.take_of_length_le (by rw [List.length_map, FG.gr_length]; exact Nat.le_refl _)]
    rfl
  simp only [biTuple, seq_obj hg]
end K48
set_option Elab.async false
set_option linter.all false
set_option maxRecDepth 100000
set_option maxHeartbeats 1000000
namespace K48
open PySem PySem.Spec PyProof.Rows L2 Hx
open FG (E3 eS Cp St Fd)
abbrev Tr := List Int × Nat × List Int
def kvQ (qs : List Int) : List (L2.Key × D) := qs.map fun q => (.inl q, .bl true)
abbrev encK (qs : List Int) : D := .dK (kvQ qs)
def insQ (q : Int) (qs : List Int) : List Int := if q ∈ qs then qs else qs ++ [q]
theorem mem_insQ {q x : Int} {qs : List Int} : x ∈ insQ q qs ↔ x ∈ qs ∨ x = q := by
  unfold insQ
  by_cases h : q ∈ qs
  · rw [if_pos h]
    exact ⟨.inl, fun z => z.elim id fun e => e ▸ h⟩
  · rw [if_neg h, List.mem_append, List.mem_singleton]
theorem insQ_nodup {q : Int} {qs : List Int} (h : qs.Nodup) : (insQ q qs).Nodup := by
  unfold insQ
  by_cases e : q ∈ qs
  · rw [if_pos e]; exact h
  · rw [if_neg e, List.nodup_append]
    refine ⟨h, by simp, fun a ha b hb z => ?_⟩
    rw [List.mem_singleton] at hb
    rw [z, hb] at ha
    exact e ha
theorem pt_kvQ (qs : List Int) (q : Int) : pt (kvQ qs) (.inl q) (.bl true) = kvQ (insQ q qs) := by
  have any : ((kvQ qs).any fun kv => decide (kv.1 = (.inl q : L2.Key))) = decide (q ∈ qs) := by
    unfold kvQ
    rw [List.any_map]
    induction qs with
    | nil => rfl
    | cons a r ih =>
      rw [List.any_cons, ih]
      show (decide ((Sum.inl a : L2.Key) = Sum.inl q) || decide (q ∈ r)) = _
      by_cases e : a = q
      · subst e; simp
      · have e' : ¬ q = a := fun z => e z.symm
        have : ¬ (Sum.inl a : L2.Key) = Sum.inl q := fun z => e (Sum.inl.inj z)
        simp [this, e']
  unfold pt insQ
  rw [any]
  by_cases h : q ∈ qs
  · rw [if_pos (decide_eq_true h), if_pos h]
    unfold kvQ
    rw [List.map_map]
    refine List.map_congr_left fun x _ => ?_
    show (if (Sum.inl x : L2.Key) = Sum.inl q then ((Sum.inl x : L2.Key), D.bl true) else (Sum.inl x, D.bl true)) = _
    by_cases e : (Sum.inl x : L2.Key) = Sum.inl q
    · rw [if_pos e]
    · rw [if_neg e]
  · rw [if_neg (by rw [decide_eq_true_eq]; exact h), if_neg h]
    unfold kvQ
    rw [List.map_append]
    rfl
def Has (A : List Tr) (w : List Int) (q : Int) : Prop := ∃ t ∈ A, t.1 = w ∧ q ∈ t.2.2
structure EInv (S S' : Store) (A : List Tr) : Prop where
  pre : ∃ T, S' = S ++ T
  at0 : S'[S.length]? = some (.dT (A.map fun t => (kW t.1, .obj t.2.1)))
  obj : ∀ t ∈ A, S.length < t.2.1 ∧ S'[t.2.1]? = some (encK t.2.2)
  idx : (A.map fun t => t.2.1).Nodup
  key : (A.map fun t => t.1).Nodup
  frm : ∀ t ∈ A, ∃ p s : Int, t.1 = [p, s]
  qn : ∀ t ∈ A, t.2.2.Nodup ∧ t.2.2 ≠ []
theorem key_one {A : List Tr} (h : (A.map fun t => t.1).Nodup) {t u : Tr} (ht : t ∈ A) (hu : u ∈ A) (e : t.1 = u.1) : t = u := by
  induction A with
  | nil => simp at ht
  | cons a r ih =>
    rw [List.map_cons, List.nodup_cons] at h
    rcases List.mem_cons.mp ht with h1 | h1
    · rcases List.mem_cons.mp hu with h2 | h2
      · rw [h1, h2]
      · exact absurd (by rw [← h1, e]; exact List.mem_map_of_mem (f := fun t : Tr => t.1) h2) h.1
    · rcases List.mem_cons.mp hu with h2 | h2
      · exact absurd (by rw [← h2, ← e]; exact List.mem_map_of_mem (f := fun t : Tr => t.1) h1) h.1
      · exact ih h.2 h1 h2
theorem idx_one {A : List Tr} (h : (A.map fun t => t.2.1).Nodup) {t u : Tr} (ht : t ∈ A) (hu : u ∈ A) (e : t.2.1 = u.2.1) : t = u := by
  induction A with
  | nil => simp at ht
  | cons a r ih =>
    rw [List.map_cons, List.nodup_cons] at h
    rcases List.mem_cons.mp ht with h1 | h1
    · rcases List.mem_cons.mp hu with h2 | h2
      · rw [h1, h2]
      · exact absurd (by rw [← h1, e]; exact List.mem_map_of_mem (f := fun t : Tr => t.2.1) h2) h.1
    · rcases List.mem_cons.mp hu with h2 | h2
      · exact absurd (by rw [← h2, ← e]; exact List.mem_map_of_mem (f := fun t : Tr => t.2.1) h1) h.1
      · exact ih h.2 h1 h2
theorem ends_keys (A : List Tr) : (A.map fun t => (kW t.1, D.obj t.2.1)).map (·.1) = (A.map fun t => t.1).map kW := by rw [List.map_map, List.map_map]; rfl
theorem ckT_ok {S : Store} {i : Nat} {kvs : Kv} (h : S[i]? = some (.dT kvs)) : ckT S (.obj i) = true := by
  simp only [ckT, h]
theorem putK_ok {S : Store} {i : Nat} {m : List (L2.Key × D)} (h : S[i]? = some (.dK m)) (hl : m.length < sizeLine) (q : Int) (d : D) : putD S (.obj i) (.int q) d = some (i, .dK (pt m (.inl q) d)) := by
  unfold putD
  simp only [h, keyK, hl, if_true]
theorem ends_step {S S' : Store} {A : List Tr} (I : EInv S S' A) (hA : A.length < 200000) (p s q : Int) (hq : ∀ t ∈ A, t.2.2.length < 200000) {env : Ev} {g1 g2 h : SE} (v1 : env[1]? = some (some (.obj S.length)))
    (hg1 : ∀ S, g1 env S = .ok (.int p) S) (hg2 : ∀ S, g2 env S = .ok (.int s) S) (hh : ∀ S, h env S = .ok (.int q) S) :
    ∃ S'' A', Hx.sDPut (eMt ckT mtSet (eVar 1) (aCons (eTup (aCons g1 (aCons g2 aNil))) (aCons (eDNew BX (.dK [])) aNil))) h (eC (.bl true)) env S' = .nx env S'' ∧ EInv S S'' A' ∧ (∀ w x, Has A' w x ↔ Has A w x ∨ (w = [p, s] ∧ x = q)) ∧ A'.length ≤ A.length + 1 ∧ (∀ n, (∀ t ∈ A, t.2.2.length ≤ n) → ∀ t ∈ A', t.2.2.length ≤ n + 1) := by
  have hv : ∀ S, eVar 1 env S = .ok (.obj _) S := fun S => by unfold eVar; rw [v1]
  obtain ⟨T0, hT0⟩ := I.pre
  have hlt : S.length < S'.length := (List.getElem?_eq_some_iff.mp I.at0).1
  have hlk : ((A.map fun t => (kW t.1, D.obj t.2.1)).map (·.1)).Nodup := by
    rw [ends_keys]
    exact map_of_nodup kW (fun a b => kW_inj) I.key
  have at1 : (S' ++ [D.dK []])[S.length]? = some (.dT (A.map fun t => (kW t.1, .obj t.2.1))) := get_pre I.at0
  have hmt : ∀ d S2, mtSet (.obj S.length) [dW [p, s], .obj S'.length] (S' ++ [.dK []]) = .ok d S2 → eMt ckT mtSet (eVar 1) (aCons (eTup (aCons g1 (aCons g2 aNil))) (aCons (eDNew BX (.dK [])) aNil)) env S' = .ok d S2 := fun d S2 h => by
    have h1 := tup2_ok (hg1 S') (hg2 S')
    simp only [eMt, hv, R.bind_ok, ckT_ok I.at0, if_true, aCons, aNil] at *
    simp only [h1, R.bind_ok, eDNew, BX]
    exact h
  have hAl : (A.map fun t => (kW t.1, D.obj t.2.1)).length < sizeLine := by
    rw [List.length_map]
    exact Nat.lt_of_lt_of_le hA line_big
  by_cases hex : [p, s] ∈ A.map fun t => t.1
  · obtain ⟨t0, h0, k0⟩ := List.mem_map.mp hex
    obtain ⟨o1, o2⟩ := I.obj t0 h0
    have hl : lk (A.map fun t => (kW t.1, D.obj t.2.1)) (kW [p, s]) = some (.obj t0.2.1) := by
      refine lk_of_mem hlk ?_
      rw [← k0]
      exact List.mem_map_of_mem (f := fun t : Tr => (kW t.1, D.obj t.2.1)) h0
    have hset : mtSet (.obj S.length) [dW [p, s], .obj S'.length] (S' ++ [.dK []]) = .ok (.obj t0.2.1) (S' ++ [.dK []]) := by
      unfold mtSet
      simp only [at1, keyT_W, hAl, if_true, hl]
    have at2 : (S' ++ [D.dK []])[t0.2.1]? = some (encK t0.2.2) := get_pre o2
    have hi0 : t0.2.1 < S'.length := (List.getElem?_eq_some_iff.mp o2).1
    have hput := putK_ok (m := kvQ t0.2.2) at2 (by unfold kvQ; rw [List.length_map]; exact Nat.lt_of_lt_of_le (hq t0 h0) line_big) q (.bl true)
    rw [pt_kvQ] at hput
    refine ⟨(S' ++ [D.dK []]).set t0.2.1 (encK (insQ q t0.2.2)), A.map fun t => if t.1 = [p, s] then (t.1, t.2.1, insQ q t.2.2) else t, dput_ok rfl (hmt _ _ hset) (hh _) hput, ?_, ?_, by rw [List.length_map]; omega, ?_⟩
    · have ki : ∀ t : Tr, (if t.1 = [p, s] then (t.1, t.2.1, insQ q t.2.2) else t).1 = t.1 ∧ (if t.1 = [p, s] then (t.1, t.2.1, insQ q t.2.2) else t).2.1 = t.2.1 := fun t => by
        by_cases e : t.1 = [p, s]
        · rw [if_pos e]; exact ⟨rfl, rfl⟩
        · rw [if_neg e]; exact ⟨rfl, rfl⟩
      refine ⟨⟨(T0 ++ [D.dK []]).set (t0.2.1 - S.length) (encK (insQ q t0.2.2)), ?_⟩, ?_, fun t ht => ?_, ?_, ?_, fun t ht => ?_, fun t ht => ?_⟩
      · conv => lhs; rw [hT0, List.append_assoc, List.set_append_right _ _ (Nat.le_of_lt o1)]
      · rw [List.getElem?_set_ne (by omega), at1, List.map_map]
        congr 2
        refine List.map_congr_left fun t _ => ?_
        show _ = (kW (if t.1 = [p, s] then (t.1, t.2.1, insQ q t.2.2) else t).1, D.obj (if t.1 = [p, s] then (t.1, t.2.1, insQ q t.2.2) else t).2.1)
        rw [(ki t).1, (ki t).2]
      · obtain ⟨u, hu, rfl⟩ := List.mem_map.mp ht
        obtain ⟨u1, u2⟩ := I.obj u hu
        by_cases e : u.1 = [p, s]
        · have : u = t0 := key_one I.key hu h0 (e.trans k0.symm)
          subst this
          rw [if_pos e]
          exact ⟨u1, List.getElem?_set_self (by rw [List.length_append]; exact Nat.lt_add_right _ hi0)⟩
        · rw [if_neg e]
          refine ⟨u1, ?_⟩
          rw [List.getElem?_set_ne (fun z => e (by rw [idx_one I.idx hu h0 z.symm]; exact k0))]
          exact get_pre u2
      · rw [List.map_map]
        have : (A.map ((fun t : Tr => t.2.1) ∘ fun t => if t.1 = [p, s] then (t.1, t.2.1, insQ q t.2.2) else t)) = A.map fun t => t.2.1 := List.map_congr_left fun t _ => (ki t).2
        rw [this]
        exact I.idx
      · rw [List.map_map]
        have : (A.map ((fun t : Tr => t.1) ∘ fun t => if t.1 = [p, s] then (t.1, t.2.1, insQ q t.2.2) else t)) = A.map fun t => t.1 := List.map_congr_left fun t _ => (ki t).1
        rw [this]
        exact I.key
      · obtain ⟨u, hu, rfl⟩ := List.mem_map.mp ht
        rw [(ki u).1]
        exact I.frm u hu
      · obtain ⟨u, hu, rfl⟩ := List.mem_map.mp ht
        by_cases e : u.1 = [p, s]
        · rw [if_pos e]
          exact ⟨insQ_nodup (I.qn u hu).1, fun z => by
            have z' : insQ q u.2.2 = [] := z
            have : q ∈ insQ q u.2.2 := mem_insQ.mpr (.inr rfl)
            rw [z'] at this
            simp at this⟩
        · rw [if_neg e]
          exact I.qn u hu
    · intro w x
      constructor
      · rintro ⟨t, ht, rfl, hx⟩
        obtain ⟨u, hu, rfl⟩ := List.mem_map.mp ht
        by_cases e : u.1 = [p, s]
        · rw [if_pos e] at hx ⊢
          rcases mem_insQ.mp hx with z | z
          · exact .inl ⟨u, hu, rfl, z⟩
          · exact .inr ⟨e, z⟩
        · rw [if_neg e] at hx ⊢
          exact .inl ⟨u, hu, rfl, hx⟩
      · rintro (⟨u, hu, rfl, hx⟩ | ⟨rfl, rfl⟩)
        · refine ⟨_, List.mem_map_of_mem hu, ?_, ?_⟩
          · by_cases e : u.1 = [p, s]
            · rw [if_pos e]
            · rw [if_neg e]
          · by_cases e : u.1 = [p, s]
            · rw [if_pos e]; exact mem_insQ.mpr (.inl hx)
            · rw [if_neg e]; exact hx
        · refine ⟨_, List.mem_map_of_mem h0, ?_, ?_⟩
          · rw [if_pos k0]; exact k0
          · rw [if_pos k0]; exact mem_insQ.mpr (.inr rfl)
    · intro n hn t ht
      obtain ⟨u, hu, rfl⟩ := List.mem_map.mp ht
      have := hn u hu
      by_cases e : u.1 = [p, s]
      · rw [if_pos e]
        show (insQ q u.2.2).length ≤ n + 1
        unfold insQ
        by_cases z : q ∈ u.2.2
        · rw [if_pos z]; omega
        · rw [if_neg z, List.length_append, List.length_singleton]; omega
      · rw [if_neg e]; omega
  · have hl : lk (A.map fun t => (kW t.1, D.obj t.2.1)) (kW [p, s]) = none := by
      rw [lk_none, ends_keys, List.mem_map]
      rintro ⟨w, hw, e⟩
      rw [kW_inj e] at hw
      exact hex hw
    have hpt : pt (A.map fun t => (kW t.1, D.obj t.2.1)) (kW [p, s]) (.obj S'.length) = (A.map fun t => (kW t.1, D.obj t.2.1)) ++ [(kW [p, s], .obj S'.length)] := by
      unfold pt
      rw [any_lk, hl]
      rfl
    have hset : mtSet (.obj S.length) [dW [p, s], .obj S'.length] (S' ++ [D.dK []]) = .ok (.obj S'.length) ((S' ++ [D.dK []]).set S.length (D.dT ((A.map fun t => (kW t.1, D.obj t.2.1)) ++ [(kW [p, s], .obj S'.length)]))) := by
      unfold mtSet
      simp only [at1, keyT_W, hAl, if_true, hl, hpt]
    have at2 : ((S' ++ [D.dK []]).set S.length (.dT ((A.map fun t => (kW t.1, D.obj t.2.1)) ++ [(kW [p, s], .obj S'.length)])))[S'.length]? = some (.dK (kvQ [])) := by
      rw [List.getElem?_set_ne (by omega)]
      exact get_new S' _
    have hput := putK_ok (m := kvQ []) at2 (by decide) q (.bl true)
    rw [pt_kvQ] at hput
    have hin : insQ q [] = [q] := rfl
    rw [hin] at hput
    refine ⟨((S' ++ [D.dK []]).set S.length (D.dT ((A.map fun t => (kW t.1, D.obj t.2.1)) ++ [(kW [p, s], D.obj S'.length)]))).set S'.length (encK [q]), A ++ [([p, s], S'.length, [q])], dput_ok rfl (hmt _ _ hset) (hh _) hput, ?_, ?_, by rw [List.length_append, List.length_singleton]; exact Nat.le_refl _, ?_⟩
    · refine ⟨⟨((T0 ++ [D.dK []]).set 0 (D.dT ((A.map fun t => (kW t.1, D.obj t.2.1)) ++ [(kW [p, s], D.obj S'.length)]))).set (S'.length - S.length) (encK [q]), ?_⟩, ?_, fun t ht => ?_, ?_, ?_, fun t ht => ?_, fun t ht => ?_⟩
      · conv => lhs; rw [hT0]
        rw [List.append_assoc, List.set_append_right _ _ (Nat.le_refl _), Nat.sub_self, List.set_append_right _ _ (by rw [← hT0]; omega), ← hT0]
      · rw [List.getElem?_set_ne (by omega), List.getElem?_set_self (by rw [List.length_append]; omega), List.map_append]
        rfl
      · rcases List.mem_append.mp ht with ht | ht
        · obtain ⟨u1, u2⟩ := I.obj t ht
          have hi : t.2.1 < S'.length := (List.getElem?_eq_some_iff.mp u2).1
          refine ⟨u1, ?_⟩
          rw [List.getElem?_set_ne (by omega), List.getElem?_set_ne (by omega)]
          exact get_pre u2
        · rw [List.mem_singleton.mp ht]
          refine ⟨hlt, ?_⟩
          exact List.getElem?_set_self (by rw [List.length_set, List.length_append, List.length_singleton]; omega)
      · rw [List.map_append, List.nodup_append]
        refine ⟨I.idx, by simp, fun a ha b hb z => ?_⟩
        obtain ⟨t, ht, rfl⟩ := List.mem_map.mp ha
        have hi : t.2.1 < S'.length := (List.getElem?_eq_some_iff.mp (I.obj t ht).2).1
        have hb' : b = S'.length := by simpa using hb
        omega
      · rw [List.map_append, List.nodup_append]
        refine ⟨I.key, by simp, fun a ha b hb z => ?_⟩
        have hb' : b = [p, s] := by simpa using hb
        rw [z, hb'] at ha
        exact hex ha
      · rcases List.mem_append.mp ht with ht | ht
        · exact I.frm t ht
        · rw [List.mem_singleton.mp ht]
          exact ⟨p, s, rfl⟩
      · rcases List.mem_append.mp ht with ht | ht
        · exact I.qn t ht
        · rw [List.mem_singleton.mp ht]
          exact ⟨by simp, by simp⟩
    · intro w x
      constructor
      · rintro ⟨t, ht, rfl, hx⟩
        rcases List.mem_append.mp ht with ht | ht
        · exact .inl ⟨t, ht, rfl, hx⟩
        · rw [List.mem_singleton.mp ht] at hx ⊢
          exact .inr ⟨rfl, by simpa using hx⟩
      · rintro (⟨u, hu, rfl, hx⟩ | ⟨rfl, rfl⟩)
        · exact ⟨u, List.mem_append_left _ hu, rfl, hx⟩
        · exact ⟨_, List.mem_append_right _ (List.mem_singleton.mpr rfl), rfl, by simp⟩
    · intro n hn t ht
      rcases List.mem_append.mp ht with ht | ht
      · have := hn t ht
        omega
      · rw [List.mem_singleton.mp ht]
        show ([q] : List Int).length ≤ n + 1
        simp
end K48
set_option Elab.async false
set_option linter.all false
set_option maxRecDepth 100000
set_option maxHeartbeats 1000000
namespace K48
open PySem PySem.Spec PySem.W PyProof.Rows L2 Hx
open FG (E3 eS Cp St Fd)
/-! ### numbers, sorted -/
def leI (a b : Int) : Bool := decide (a ≤ b)
def srtI (l : List Int) : List Int := l.mergeSort leI
theorem leI_trans (a b c : Int) (h1 : leI a b = true) (h2 : leI b c = true) : leI a c = true := by
  unfold leI at *
  rw [decide_eq_true_eq] at *
  omega
theorem leI_total (a b : Int) : (leI a b || leI b a) = true := by
  unfold leI
  rw [Bool.or_eq_true, decide_eq_true_eq, decide_eq_true_eq]
  omega
theorem srtI_perm (l : List Int) : (srtI l).Perm l := List.mergeSort_perm l leI
theorem mem_srtI {l : List Int} {x : Int} : x ∈ srtI l ↔ x ∈ l := (srtI_perm l).mem_iff
theorem srtI_lt {l : List Int} (h : l.Nodup) : (srtI l).Pairwise (· < ·) := by
  have h1 := List.pairwise_mergeSort leI_trans leI_total l
  have h2 : (srtI l).Nodup := (srtI_perm l).nodup_iff.mpr h
  unfold List.Nodup at h2
  refine (h1.and h2).imp ?_
  intro a b ⟨x, y⟩
  have : a ≤ b := of_decide_eq_true x
  omega
theorem dPy_int (S : Store) (i : Int) : dPy S (.int i) = .int i := by
  unfold dPy toPy
  simp [pyG]
theorem sortD_ints (S : Store) (l : List Int) : sortD S (l.map .int) = (srtI l).map .int := by
  unfold sortD srtI
  refine (map_sort D.int leI _ l fun a _ b _ => ?_).symm
  show leI a b = !dataLt (dPy S (.int b)) (dPy S (.int a))
  rw [dPy_int, dPy_int, dataLt_int]
  unfold leI
  by_cases h : b < a
  · have h' : ¬ a ≤ b := by omega
    simp [h, h']
  · have h' : a ≤ b := by omega
    simp [h, h']
theorem sortOk_ints (l : List Int) : sortOkB (l.map PyData.int) = true := by
  unfold sortOkB
  simp only [Bool.and_eq_true, Bool.or_eq_true, List.all_eq_true]
  refine ⟨⟨fun p hp q hq => ?_, .inr fun p hp => ?_⟩, fun p hp => ?_⟩
  · obtain ⟨a, _, rfl⟩ := List.mem_map.mp hp
    obtain ⟨b, _, rfl⟩ := List.mem_map.mp hq
    simp [alike]
  · obtain ⟨a, _, rfl⟩ := List.mem_map.mp hp
    rfl
  · obtain ⟨a, _, rfl⟩ := List.mem_map.mp hp
    simp [PyData.depth]
theorem sorted_kvQ (qs : List Int) (S : Store) : opSorted FZ [encK qs] S = .ok (.lst ((srtI qs).map .int)) S := by
  have e : keysD S (encK qs) = some (qs.map .int) := by
    unfold keysD encK
    simp only [dicK]
    unfold kvQ
    rw [List.map_map]
    rfl
  have h1 : ((qs.map D.int).all fun d => (toPy S d).isSome) = true := by
    rw [List.all_eq_true]
    intro d hd
    obtain ⟨w, _, rfl⟩ := List.mem_map.mp hd
    unfold toPy
    simp [pyG]
  have h2 : (qs.map D.int).map (dPy S) = qs.map PyData.int := by
    rw [List.map_map]
    exact List.map_congr_left fun w _ => dPy_int S w
  unfold opSorted
  simp only [conL, e, h1, h2, sortOk_ints, and_self, if_true, sortD_ints, FZ]
theorem mg_nodup {κ β : Type} [DecidableEq κ] : ∀ (more acc : List (κ × β)), ((acc ++ more).map (·.1)).Nodup → mg acc more = acc ++ more
  | [], acc, _ => by simp [mg]
  | p :: r, acc, h => by
    have hp : pt acc p.1 p.2 = acc ++ [p] := by
      unfold pt
      have : ¬ (acc.any fun kv => decide (kv.1 = p.1)) = true := fun z => by
        obtain ⟨x, hx, e⟩ := List.any_eq_true.mp z
        rw [List.map_append, List.nodup_append] at h
        exact h.2.2 x.1 (List.mem_map_of_mem hx) p.1 (by simp) (of_decide_eq_true e)
      rw [if_neg this]
    show mg (pt acc p.1 p.2) r = _
    rw [hp, mg_nodup r (acc ++ [p]) (by rw [List.append_assoc]; exact h), List.append_assoc]
    rfl
/-- where the signs lead -/
structure Ends (es : List E3) (L : List (List Int × List Int)) : Prop where
  key : (L.map fun t => t.1).Nodup
  frm : ∀ t ∈ L, ∃ p s : Int, t.1 = [p, s]
  srt : ∀ t ∈ L, t.2.Pairwise (· < ·)
  ne : ∀ t ∈ L, t.2 ≠ []
  mem : ∀ p s q, (∃ t ∈ L, t.1 = [p, s] ∧ q ∈ t.2) ↔ St (eS es) p s q
  len : L.length ≤ 2 * es.length
  len2 : ∀ t ∈ L, t.2.length ≤ 2 * es.length
abbrev dEnds (L : List (List Int × List Int)) : D := .dT (L.map fun t => (kW t.1, .lst (t.2.map .int)))
theorem subT_map {α : Type} (g : Nat → Option D) (k : α → List L2.Key) (i : α → Nat) (d : α → D) : ∀ A : List α, (∀ a ∈ A, g (i a) = some (d a)) → D.subT g (A.map fun a => (k a, .obj (i a))) = some (A.map fun a => (k a, d a))
  | [], _ => rfl
  | a :: A, h => by
    simp only [List.map_cons, D.subT, D.sub, h a List.mem_cons_self, subT_map g k i d A fun x hx => h x (List.mem_cons_of_mem _ hx)]
theorem pureT_of : ∀ {kvs : List (List L2.Key × D)}, (∀ p ∈ kvs, p.2.pure = true) → D.pureT kvs = true
  | [], _ => rfl
  | (k, d) :: r, h => by
    rw [D.pureT, h (k, d) List.mem_cons_self, pureT_of fun p hp => h p (List.mem_cons_of_mem _ hp)]
    rfl
theorem encK_pure (qs : List Int) : (encK qs).pure = true := by
  unfold encK
  rw [D.pure]
  unfold kvQ
  induction qs with
  | nil => rfl
  | cons a r ih =>
    rw [List.map_cons, D.pureK, ih]
    rfl
theorem dEnds_pure (L : List (List Int × List Int)) : (dEnds L).pure = true := by
  rw [D.pure]
  refine pureT_of fun p hp => ?_
  obtain ⟨t, _, rfl⟩ := List.mem_map.mp hp
  exact pure_lst (pure_map fun _ _ => rfl)
def stC (e : E3) (w : List Int) (x : Int) : Prop := (w = [e.1, e.2.1] ∧ x = e.2.2) ∨ (w = [e.2.2, -e.2.1] ∧ x = e.1)
theorem ends_loop (es : List E3) (hl : es.length ≤ 10000) (S : Store) (x0 : Option D) (hx0 : x0 = some (.lst (es.map eE))) : ∃ A T y2 y3 y4, EInv S (S ++ T) A ∧ (∀ w x, Has A w x ↔ ∃ e ∈ es, stC e w x) ∧ A.length ≤ 2 * es.length ∧ (∀ t ∈ A, t.2.2.length ≤ 2 * es.length) ∧
    (sSeq (sSet 1 (eDNew BX (.dT []))) (sSeq (sFor (srcV (eVar 0)) (gT [(gN 2), (gN 3), (gN 4)]) (sSeq (sDPut (eMt ckT mtSet (eVar 1) (aCons (eTup (aCons (eVar 2) (aCons (eVar 3) aNil))) (aCons (eDNew BX (.dK [])) aNil))) (eVar 4) (eC (.bl true)))
    (sSeq (sDPut (eMt ckT mtSet (eVar 1) (aCons (eTup (aCons (eVar 4) (aCons (e1 opNeg (eVar 3)) aNil))) (aCons (eDNew BX (.dK [])) aNil))) (eVar 2) (eC (.bl true)))
    sNil))) sNil)) [x0, none, none, none, none, none, none] S = .nx [x0, some (.obj S.length), y2, y3, y4, none, none] (S ++ T) := by
  subst hx0
  obtain ⟨env', S', e, y2, y3, y4, A, rfl, I, hH, hA, hB⟩ := forL_inv (enc := eE) (g := gT [(gN 2), (gN 3), (gN 4)]) (u := (sSeq (sDPut (eMt ckT mtSet (eVar 1) (aCons (eTup (aCons (eVar 2) (aCons (eVar 3) aNil))) (aCons (eDNew BX (.dK [])) aNil))) (eVar 4) (eC (.bl true)))
    (sSeq (sDPut (eMt ckT mtSet (eVar 1) (aCons (eTup (aCons (eVar 4) (aCons (e1 opNeg (eVar 3)) aNil))) (aCons (eDNew BX (.dK [])) aNil))) (eVar 2) (eC (.bl true)))
    sNil))) es (fun pre env S' => ∃ y2 y3 y4 A, env = [some (.lst (es.map eE)), some (.obj S.length), y2, y3, y4, none, none] ∧ EInv S S' A ∧ (∀ w x, Has A w x ↔ ∃ e ∈ pre, stC e w x) ∧ A.length ≤ 2 * pre.length ∧ ∀ t ∈ A, t.2.2.length ≤ 2 * pre.length)
    (fun pre e post env S' hes hR => by
      obtain ⟨y2, y3, y4, A, rfl, I, hH, hA, hB⟩ := hR
      have hpl : pre.length + 1 ≤ es.length := by rw [hes]; simp
      obtain ⟨S1, A1, r1, I1, H1, l1, m1⟩ := ends_step I (by omega) e.1 e.2.1 e.2.2 (fun t ht => by have := hB t ht; omega) (env := [some (.lst (es.map eE)), some (.obj S.length), some (.int e.1), some (.int e.2.1), some (.int e.2.2), none, none]) (g1 := eVar 2) (g2 := eVar 3) (h := eVar 4) rfl (fun _ => rfl) (fun _ => rfl) (fun _ => rfl)
      have m1' := m1 (2 * pre.length) hB
      obtain ⟨S2, A2, r2, I2, H2, l2, m2⟩ := ends_step I1 (by omega) e.2.2 (-e.2.1) e.1 (fun t ht => by have := m1' t ht; omega) (env := [some (.lst (es.map eE)), some (.obj S.length), some (.int e.1), some (.int e.2.1), some (.int e.2.2), none, none]) (g1 := eVar 4) (g2 := e1 opNeg (eVar 3)) (h := eVar 2) rfl (fun _ => rfl) (fun _ => rfl) (fun _ => rfl)
      have m2' := m2 (2 * pre.length + 1) m1'
      refine ⟨_, _, S2, rfl, .inl (sq_nx r1 (sq_nx r2 rfl)), _, _, _, A2, rfl, I2, fun w x => ?_, by simp; omega, fun t ht => ?_⟩
      · rw [H2, H1, hH]
        constructor
        · rintro ((⟨y, hy, hc⟩ | hc) | hc)
          · exact ⟨y, List.mem_append_left _ hy, hc⟩
          · exact ⟨e, List.mem_append_right _ (List.mem_singleton.mpr rfl), .inl hc⟩
          · exact ⟨e, List.mem_append_right _ (List.mem_singleton.mpr rfl), .inr hc⟩
        · rintro ⟨y, hy, hc⟩
          rcases List.mem_append.mp hy with hy | hy
          · exact .inl (.inl ⟨y, hy, hc⟩)
          · rw [List.mem_singleton.mp hy] at hc
            rcases hc with hc | hc
            · exact .inl (.inr hc)
            · exact .inr hc
      · have := m2' t ht
        simp
        omega) es [] [some (.lst (es.map eE)), some (.obj S.length), none, none, none, none, none] (S ++ [.dT []]) rfl ⟨none, none, none, [], rfl, ⟨⟨[.dT []], rfl⟩, get_new S _, fun t ht => by simp at ht, List.nodup_nil, List.nodup_nil, fun t ht => by simp at ht, fun t ht => by simp at ht⟩, fun w x => by simp [Has], by simp, fun t ht => by simp at ht⟩
  obtain ⟨T, rfl⟩ := I.pre
  refine ⟨A, T, y2, y3, y4, I, hH, hA, hB, ?_⟩
  refine sq_nx (env' := [some (.lst (es.map eE)), some (.obj S.length), none, none, none, none, none]) (S' := S ++ [.dT []]) rfl ?_
  exact sq_nx (for_nx (srcV_ok rfl rfl) e) rfl
theorem ends_of_ok (es : List E3) (ha : ∀ e ∈ es, 0 < e.2.1) (hl : es.length ≤ 10000) (S : Store) : ∃ L, Ends es L ∧ F_ends_of [.lst (es.map eE)] S = .ok (dEnds L) S := by
  obtain ⟨A, T, y2, y3, y4, I, hH, hA, hB, run⟩ := ends_loop es hl S _ rfl
  have hE : Ends es (A.map fun t => (t.1, srtI t.2.2)) := by
    refine ⟨by rw [List.map_map]; exact I.key, fun t ht => ?_, fun t ht => ?_, fun t ht => ?_, fun p s q => ?_, by rw [List.length_map]; exact hA, fun t ht => ?_⟩
    · obtain ⟨u, hu, rfl⟩ := List.mem_map.mp ht
      exact I.frm u hu
    · obtain ⟨u, hu, rfl⟩ := List.mem_map.mp ht
      exact srtI_lt (I.qn u hu).1
    · obtain ⟨u, hu, rfl⟩ := List.mem_map.mp ht
      intro z
      have z' : srtI u.2.2 = [] := z
      have := (srtI_perm u.2.2).length_eq
      rw [z'] at this
      exact (I.qn u hu).2 (List.length_eq_zero_iff.mp this.symm)
    · have h1 : (∃ t ∈ A.map (fun t => (t.1, srtI t.2.2)), t.1 = [p, s] ∧ q ∈ t.2) ↔ Has A [p, s] q := by
        constructor
        · rintro ⟨t, ht, h1, h2⟩
          obtain ⟨u, hu, rfl⟩ := List.mem_map.mp ht
          exact ⟨u, hu, h1, mem_srtI.mp h2⟩
        · rintro ⟨u, hu, h1, h2⟩
          exact ⟨_, List.mem_map_of_mem hu, h1, mem_srtI.mpr h2⟩
      rw [h1, hH]
      constructor
      · rintro ⟨⟨p', a, q'⟩, he, h | h⟩
        · obtain ⟨h1, h2⟩ := h
          simp only [List.cons.injEq, and_true] at h1
          obtain ⟨rfl, rfl⟩ := h1
          cases h2
          exact .inl ⟨ha _ he, he⟩
        · obtain ⟨h1, h2⟩ := h
          simp only [List.cons.injEq, and_true] at h1
          obtain ⟨rfl, rfl⟩ := h1
          cases h2
          have : 0 < a := ha _ he
          exact .inr ⟨by omega, by rw [Int.neg_neg]; exact he⟩
      · rintro (⟨h1, h2⟩ | ⟨h1, h2⟩)
        · exact ⟨_, h2, .inl ⟨rfl, rfl⟩⟩
        · exact ⟨_, h2, .inr ⟨by show _ = [p, - -s]; rw [Int.neg_neg], rfl⟩⟩
    · obtain ⟨u, hu, rfl⟩ := List.mem_map.mp ht
      show (srtI u.2.2).length ≤ _
      rw [(srtI_perm u.2.2).length_eq]
      exact hB u hu
  refine ⟨_, hE, fn_pure rfl ?_ (dEnds_pure _)⟩
  unfold u_ends_of
  have hf : frz S.length (S ++ T) (.obj S.length) = some (.dT (A.map fun t => (kW t.1, encK t.2.2))) := by
    unfold frz
    show deep S.length (S ++ T) 3 S.length = _
    unfold deep
    rw [if_neg (Nat.lt_irrefl _), I.at0]
    dsimp only
    rw [D.sub, subT_map _ (fun t : Tr => kW t.1) (fun t => t.2.1) (fun t => encK t.2.2) A fun t ht => ?_]
    · rfl
    · obtain ⟨h1, h2⟩ := I.obj t ht
      unfold deep
      rw [if_neg (by omega), h2]
      exact D.sub_pure _ _ (encK_pure _)
  refine sq_nx (scope_nx run) ?_
  have hcut : cutE S.length (S ++ T) [some (.lst (es.map eE)), some (.obj S.length), y2, y3, y4, none, none] = [(some (D.lst (es.map eE))).bind (frz S.length (S ++ T)), some (.dT (A.map fun t => (kW t.1, encK t.2.2))), y2.bind (frz S.length (S ++ T)), y3.bind (frz S.length (S ++ T)), y4.bind (frz S.length (S ++ T)), none, none] := by
    unfold cutE
    simp only [List.map_cons, List.map_nil, Option.bind_some, Option.bind_none, hf]
  rw [hcut]
  generalize (some (D.lst (es.map eE))).bind (frz S.length (S ++ T)) = z0
  generalize y2.bind (frz S.length (S ++ T)) = z2
  generalize y3.bind (frz S.length (S ++ T)) = z3
  generalize y4.bind (frz S.length (S ++ T)) = z4
  have hsrc : srcItems (eVar 1) [z0, some (.dT (A.map fun t => (kW t.1, encK t.2.2))), z2, z3, z4, none, none] S = .ok (A.map fun t => D.tup [dW t.1, encK t.2.2]) S := by
    unfold srcItems
    have h1 : eVar 1 [z0, some (D.dT (A.map fun t => (kW t.1, encK t.2.2))), z2, z3, z4, none, none] S = .ok (.dT (A.map fun t => (kW t.1, encK t.2.2))) S := rfl
    rw [h1, R.bind_ok]
    have h2 : itemsD (.dT (A.map fun t => (kW t.1, encK t.2.2))) = some (A.map fun t => D.tup [dW t.1, encK t.2.2]) := by
      unfold itemsD
      dsimp only
      rw [List.map_map]
      congr 1
      refine List.map_congr_left fun t _ => ?_
      show D.tup [.tup ((kW t.1).map ofKey), encK t.2.2] = _
      rw [of_kW]
      rfl
    rw [h2]
  have hlc : (eLc FZ (srcItems (eVar 1)) (gT [(gN 5), (gN 6)]) [5, 6] bYes (eTup (aCons (eVar 5) (aCons (eCB (opSorted FZ) (aCons (eVar 6) aNil)) aNil)))) [z0, some (.dT (A.map fun t => (kW t.1, encK t.2.2))), z2, z3, z4, none, none] S = .ok (.lst (A.map fun t => D.tup [dW t.1, .lst ((srtI t.2.2).map .int)])) S := by
    refine lc_fz (enc := fun t : Tr => D.tup [dW t.1, encK t.2.2]) (as := A) (S1 := S) (fun t => D.tup [dW t.1, .lst ((srtI t.2.2).map .int)]) hsrc (fun t _ => ?_) (small_line (by omega))
    exact ⟨[z0, some (.dT (A.map fun t => (kW t.1, encK t.2.2))), z2, z3, z4, some (dW t.1), some (encK t.2.2)], rfl, tup2_ok rfl ((cb1_ok rfl).trans (sorted_kvQ t.2.2 S))⟩
  refine sq_rt (ret_ok ((cb1_ok hlc).trans ?_))
  have hp : pairsT (A.map fun t => D.tup [dW t.1, .lst ((srtI t.2.2).map .int)]) = some (A.map fun t => (kW t.1, D.lst ((srtI t.2.2).map .int))) := by
    have := pairsT_W (β := List Int) (fun l => D.lst ((srtI l).map .int)) (A.map fun t => (t.1, t.2.2))
    rw [List.map_map, List.map_map] at this
    exact this
  unfold opDictT
  simp only [conL, hp, FZ]
  rw [mg_nodup _ _ (by
    rw [List.nil_append, List.map_map]
    have : ((fun x : List L2.Key × D => x.1) ∘ fun t : Tr => (kW t.1, D.lst ((srtI t.2.2).map .int))) = fun t : Tr => kW t.1 := rfl
    rw [this]
    have h := map_of_nodup kW (fun a b => kW_inj) I.key
    rw [List.map_map] at h
    exact h), List.nil_append]
  unfold dEnds
  rw [List.map_map]
  rfl
end K48
set_option Elab.async false
set_option linter.all false
set_option maxRecDepth 100000
set_option maxHeartbeats 1000000
namespace K48
open PySem PySem.Spec PySem.W PyProof.Rows L2 Hx
open FG (E3 eS Cp St Fd mrg msr)
theorem KInv.mg {kvs : Kv} {P : List Int → Prop} {n : Nat} (h : KInv kvs P n) (ws : List (List Int)) (d : D) : KInv (Hx.mg kvs (ws.map fun w => (kW w, d))) (fun x => P x ∨ x ∈ ws) (n + ws.length) := by
  obtain ⟨h1, h2, h3⟩ := mg_spec (ws.map fun w => (kW w, d)) kvs h.nd
  refine ⟨h1, fun k => ?_, ?_⟩
  · rw [h2, h.mem, List.map_map]
    constructor
    · rintro (⟨w, rfl, hw⟩ | hk)
      · exact ⟨w, rfl, .inl hw⟩
      · obtain ⟨w, hw, rfl⟩ := List.mem_map.mp hk
        exact ⟨w, rfl, .inr hw⟩
    · rintro ⟨w, rfl, hw | hw⟩
      · exact .inl ⟨w, rfl, hw⟩
      · exact .inr (List.mem_map.mpr ⟨w, hw, rfl⟩)
  · rw [List.length_map] at h3
    have := h.len
    omega
theorem pairs_few {N : Nat} {l : List (List Int)} (h : l.Nodup) (hp : ∀ w ∈ l, ∃ a b : Int, w = [a, b] ∧ (0 ≤ a ∧ a < N) ∧ (0 ≤ b ∧ b < N)) : l.length ≤ N * N := by
  have h2 := FG.nodup_le h (m := (List.range N).flatMap fun a : Nat => (List.range N).map fun b : Nat => [(a : Int), (b : Int)]) fun w hw => by
    obtain ⟨a, b, rfl, ha, hb⟩ := hp w hw
    rw [List.mem_flatMap]
    refine ⟨a.toNat, List.mem_range.mpr (by omega), List.mem_map.mpr ⟨b.toNat, List.mem_range.mpr (by omega), ?_⟩⟩
    have e1 : ((a.toNat : Nat) : Int) = a := by omega
    have e2 : ((b.toNat : Nat) : Int) = b := by omega
    rw [e1, e2]
  have h3 : ((List.range N).flatMap fun a : Nat => (List.range N).map fun b : Nat => [(a : Int), (b : Int)]).length = N * N := by
    rw [List.length_flatMap]
    have : ((List.range N).map fun a : Nat => ((List.range N).map fun b : Nat => [(a : Int), (b : Int)]).length) = List.replicate N N := by
      rw [List.eq_replicate_iff]
      refine ⟨by simp, fun x hx => ?_⟩
      obtain ⟨a, _, rfl⟩ := List.mem_map.mp hx
      simp
    rw [this, List.sum_replicate_nat]
  rw [h3] at h2
  exact h2
theorem KInv.words {kvs : Kv} {P : List Int → Prop} {n : Nat} (h : KInv kvs P n) : ∃ l : List (List Int), kvs.map (·.1) = l.map kW ∧ l.Nodup ∧ ∀ w, w ∈ l ↔ P w := by
  obtain ⟨l, el⟩ := exists_map kW (l := kvs.map (·.1)) (fun k hk => by
    obtain ⟨w, rfl, _⟩ := (h.mem k).mp hk
    exact ⟨w, rfl⟩)
  refine ⟨l, el, nodup_of_map kW (by rw [← el]; exact h.nd), fun w => ?_⟩
  have := h.mem (kW w)
  rw [el, List.mem_map] at this
  constructor
  · intro h
    obtain ⟨x, hx, hc⟩ := this.mp ⟨w, h, rfl⟩
    rw [kW_inj hx]
    exact hc
  · intro h
    obtain ⟨x, hx, hc⟩ := this.mpr ⟨w, rfl, h⟩
    exact kW_inj hc ▸ hx
theorem KInv.few {kvs : Kv} {P : List Int → Prop} {n N : Nat} (h : KInv kvs P n) (hP : ∀ w, P w → ∃ a b : Int, w = [a, b] ∧ (0 ≤ a ∧ a < N) ∧ (0 ≤ b ∧ b < N)) : kvs.length ≤ N * N := by
  obtain ⟨l, e, hn, hm⟩ := h.words
  have := pairs_few hn fun w hw => hP w ((hm w).mp hw)
  have e2 := congrArg List.length e
  rw [List.length_map, List.length_map] at e2
  omega
theorem upd_ok {S : Store} {i : Nat} {kvs : Kv} (h : S[i]? = some (.dT kvs)) (ws : List (List Int)) (d : D) (hl : kvs.length + ws.length ≤ sizeLine) : mtUpdT (.obj i) [.lst (ws.map fun w => D.tup [dW w, d])] S = .ok .non (S.set i (.dT (Hx.mg kvs (ws.map fun w => (kW w, d))))) := by
  have hp : pairsT (ws.map fun w => D.tup [dW w, d]) = some (ws.map fun w => (kW w, d)) := by
    have := pairsT_W (β := D) (fun x => x) (ws.map fun w => (w, d))
    rw [List.map_map, List.map_map] at this
    exact this
  unfold mtUpdT
  simp only [h, conL, hp, List.length_map, hl, if_true]
def cpB : SS := (sSeq (sExpr (eMt ckT mtUpdT (eVar 1) (aCons (eLc FZ (srcV (eSl FZ (eVar 2) (oSome (e2 (opAdd FZ) (eVar 3) (eC (.int 1)))) oNone)) (gN 5) [5] bYes (eTup (aCons (eTup (aCons (eVar 4) (aCons (eVar 5) aNil))) (aCons (eC (.bl true)) aNil)))) aNil)))
    sNil)
theorem cpB_ok (x0 x5 : Option D) (S : Store) (kvs : Kv) (l : List Int) (i : Nat) (a : Int) (hi : l[i]? = some a) (hl : l.length ≤ 100000) (hk : kvs.length ≤ 1000000) :
    cpB [x0, some (.obj S.length), some (.lst (l.map .int)), some (.int (i : Int)), some (.int a), x5] (S ++ [.dT kvs]) =
      .nx [x0, some (.obj S.length), some (.lst (l.map .int)), some (.int (i : Int)), some (.int a), x5] (S ++ [.dT (Hx.mg kvs (((l.drop (i + 1)).map fun b => [a, b]).map fun w => (kW w, .bl true)))]) := by
  have hil : i < l.length := (List.getElem?_eq_some_iff.mp hi).1
  have hg := get_new S (D.dT kvs)
  have hsl : (eSl FZ (eVar 2) (oSome (e2 (opAdd FZ) (eVar 3) (eC (.int 1)))) oNone) [x0, some (.obj S.length), some (.lst (l.map .int)), some (.int (i : Int)), some (.int a), none] (S ++ [.dT kvs]) = .ok (.lst ((l.drop (i + 1)).map .int)) (S ++ [.dT kvs]) := by
    have h1 : (e2 (opAdd FZ) (eVar 3) (eC (.int 1))) [x0, some (.obj S.length), some (.lst (l.map .int)), some (.int (i : Int)), some (.int a), none] (S ++ [.dT kvs]) = .ok (.int ((i + 1 : Nat) : Int)) (S ++ [.dT kvs]) := rfl
    unfold eSl
    have h2 : eVar 2 [x0, some (.obj S.length), some (.lst (l.map .int)), some (.int (i : Int)), some (.int a), none] (S ++ [D.dT kvs]) = .ok (.lst (l.map .int)) (S ++ [.dT kvs]) := rfl
    rw [h2, R.bind_ok]
    unfold oSome oNone
    rw [h1, R.bind_ok]
    simp only [R.bind_ok]
    rw [sl_lst, cut_hi _ _ (by rw [List.length_map]; omega), List.map_drop]
  have hlc : (eLc FZ (srcV (eSl FZ (eVar 2) (oSome (e2 (opAdd FZ) (eVar 3) (eC (.int 1)))) oNone)) (gN 5) [5] bYes (eTup (aCons (eTup (aCons (eVar 4) (aCons (eVar 5) aNil))) (aCons (eC (.bl true)) aNil)))) [x0, some (.obj S.length), some (.lst (l.map .int)), some (.int (i : Int)), some (.int a), x5] (S ++ [.dT kvs]) = .ok (.lst (((l.drop (i + 1)).map fun b => [a, b]).map fun w => D.tup [dW w, .bl true])) (S ++ [.dT kvs]) := by
    have := lc_fz (src := (srcV (eSl FZ (eVar 2) (oSome (e2 (opAdd FZ) (eVar 3) (eC (.int 1)))) oNone))) (g := gN 5) (vs := [5]) (el := (eTup (aCons (eTup (aCons (eVar 4) (aCons (eVar 5) aNil))) (aCons (eC (.bl true)) aNil)))) (env := [x0, some (.obj S.length), some (.lst (l.map .int)), some (.int (i : Int)), some (.int a), x5]) (S := S ++ [.dT kvs]) (enc := D.int) (as := l.drop (i + 1)) (S1 := S ++ [.dT kvs]) (fun b => D.tup [dW [a, b], .bl true]) ?_ (fun b _ => ⟨[x0, some (.obj S.length), some (.lst (l.map .int)), some (.int (i : Int)), some (.int a), some (.int b)], rfl, tup2_ok (tup2_ok rfl rfl) rfl⟩) (small_line (by rw [List.length_drop]; omega))
    · rw [this, List.map_map]
      rfl
    · refine srcV_ok (d := .lst ((l.drop (i + 1)).map .int)) ?_ rfl
      unfold eSl
      have h1 : (e2 (opAdd FZ) (eVar 3) (eC (.int 1))) [x0, some (.obj S.length), some (.lst (l.map .int)), some (.int (i : Int)), some (.int a), x5] (S ++ [.dT kvs]) = .ok (.int ((i + 1 : Nat) : Int)) (S ++ [.dT kvs]) := rfl
      have h2 : eVar 2 [x0, some (.obj S.length), some (.lst (l.map .int)), some (.int (i : Int)), some (.int a), x5] (S ++ [D.dT kvs]) = .ok (.lst (l.map .int)) (S ++ [.dT kvs]) := rfl
      rw [h2, R.bind_ok]
      unfold oSome oNone
      rw [h1, R.bind_ok]
      simp only [R.bind_ok]
      rw [sl_lst, cut_hi _ _ (by rw [List.length_map]; omega), List.map_drop]
  have hu := upd_ok hg ((l.drop (i + 1)).map fun b => [a, b]) (.bl true) (by
    rw [List.length_map, List.length_drop]
    have : (4000000 : Nat) ≤ sizeLine := by decide
    omega)
  rw [set_new] at hu
  unfold cpB
  refine sq_nx ?_ rfl
  have hmt := (mt1_ok (ck := ckT) (k := mtUpdT) (f := eVar 1) (env := [x0, some (.obj S.length), some (.lst (l.map .int)), some (.int (i : Int)), some (.int a), x5]) (a := .obj S.length) (S1 := S ++ [.dT kvs]) rfl (ckT_ok hg) hlc).trans hu
  simp only [sExpr, hmt, bindS_ok]
theorem couples_ok (es : List E3) (N n : Nat) (hp : PlOk N n es) (hN : N ≤ 900) (hl : es.length ≤ 10000) (S : Store) : ∃ l, Cpl es l ∧ F_couples_to_fold [.lst (es.map eE)] S = .ok (.lst ((srtW l).map dW)) S := by
  obtain ⟨L, hE, run⟩ := ends_of_ok es (fun e he => (hp.act e he).1) hl (S ++ [.dT []])
  have hNN : N * N ≤ 900 * 900 := Nat.mul_le_mul hN hN
  have inr : ∀ t ∈ L, ∀ a ∈ t.2, 0 ≤ a ∧ a < (N : Int) := fun t ht a ha => by
    obtain ⟨p, s, e⟩ := hE.frm t ht
    exact occ_in hp (FG.occ_st ((hE.mem p s a).mp ⟨t, ht, e, ha⟩))
  obtain ⟨env', S', e, y2, y3, y4, y5, kvs, k, rfl, rfl, hK⟩ := forL_inv (enc := fun t : List Int × List Int => D.lst (t.2.map .int)) (g := gN 2) (u := (sSeq (sFor (srcE (eVar 2)) (gT [(gN 3), (gN 4)]) cpB) sNil)) L
    (fun pre env S' => ∃ y2 y3 y4 y5 kvs k, env = [some (.lst (es.map eE)), some (.obj S.length), y2, y3, y4, y5] ∧ S' = S ++ [.dT kvs] ∧ KInv kvs (fun w => ∃ t ∈ pre, ∃ a b, w = [a, b] ∧ a ∈ t.2 ∧ b ∈ t.2 ∧ a < b) k)
    (fun pre t post env S' hL hR => by
      obtain ⟨y2, y3, y4, y5, kvs, k, rfl, rfl, hK⟩ := hR
      have htL : t ∈ L := by rw [hL]; simp
      have hpre : ∀ u ∈ pre, u ∈ L := fun u hu => by rw [hL]; exact List.mem_append_left _ hu
      have hlen := hE.len2 t htL
      obtain ⟨env', S', e, z3, z4, z5, kvs', k', rfl, rfl, hK'⟩ := forL_num (g := gT [(gN 3), (gN 4)]) (u := cpB) (enumD 0 (t.2.map .int))
        (fun i env S' => ∃ y3 y4 y5 kvs k, env = [some (.lst (es.map eE)), some (.obj S.length), some (.lst (t.2.map .int)), y3, y4, y5] ∧ S' = S ++ [.dT kvs] ∧ KInv kvs (fun w => (∃ t ∈ pre, ∃ a b, w = [a, b] ∧ a ∈ t.2 ∧ b ∈ t.2 ∧ a < b) ∨ ∃ j a b, j < i ∧ t.2[j]? = some a ∧ b ∈ t.2.drop (j + 1) ∧ w = [a, b]) k)
        (fun i d env S' hd hR => by
          obtain ⟨y3, y4, y5, kvs, k, rfl, rfl, hK⟩ := hR
          obtain ⟨x, hx, rfl⟩ := enum_at hd
          rw [List.getElem?_map] at hx
          obtain ⟨a, ha, rfl⟩ := Option.map_eq_some_iff.mp hx
          have hfew := hK.few (N := N) (fun w hw => by
            rcases hw with ⟨u, hu, a, b, rfl, h1, h2, _⟩ | ⟨j, a, b, _, h1, h2, rfl⟩
            · exact ⟨a, b, rfl, inr u (hpre u hu) a h1, inr u (hpre u hu) b h2⟩
            · exact ⟨a, b, rfl, inr t htL a (List.mem_of_getElem? h1), inr t htL b (List.mem_of_mem_drop h2)⟩)
          refine ⟨[some (.lst (es.map eE)), some (.obj S.length), some (.lst (t.2.map .int)), some (.int (i : Int)), some (.int a), y5], _, _, ?_, cpB_ok _ _ S kvs t.2 i a ha (by omega) (by omega), _, _, _, _, _, rfl, rfl, (hK.mg ((t.2.drop (i + 1)).map fun b => [a, b]) (.bl true)).congr (fun w => ?_) (Nat.le_refl _)⟩
          · show gT [gN 3, gN 4] (.tup [.int ((0 + i : Nat) : Int), .int a]) _ = _
            rw [Nat.zero_add]
            rfl
          · rw [or_assoc]
            refine or_congr Iff.rfl ⟨?_, ?_⟩
            · rintro (⟨j, a', b, h1, h2, h3, h4⟩ | h)
              · exact ⟨j, a', b, by omega, h2, h3, h4⟩
              · obtain ⟨b, hb, e⟩ := List.mem_map.mp h
                exact ⟨i, a, b, by omega, ha, hb, e.symm⟩
            · rintro ⟨j, a', b, h1, h2, h3, h4⟩
              by_cases z : j < i
              · exact .inl ⟨j, a', b, z, h2, h3, h4⟩
              · have : j = i := by omega
                subst this
                rw [ha] at h2
                cases h2
                exact .inr (List.mem_map.mpr ⟨b, h3, h4.symm⟩)) 0 [some (.lst (es.map eE)), some (.obj S.length), some (.lst (t.2.map .int)), y3, y4, y5] (S ++ [.dT kvs]) (Nat.zero_le _) ⟨y3, y4, y5, kvs, k, rfl, rfl, hK.congr (fun w => by simp) (Nat.le_refl _)⟩
      rw [List.drop_zero] at e
      refine ⟨[some (.lst (es.map eE)), some (.obj S.length), some (.lst (t.2.map .int)), y3, y4, y5], _, _, rfl, .inl (sq_nx (for_nx (srcE_ok rfl rfl) e) rfl), _, _, _, _, _, _, rfl, rfl, hK'.congr (fun w => ?_) (Nat.le_refl _)⟩
      have hasc := hE.srt t htL
      constructor
      · rintro (⟨u, hu, h⟩ | ⟨j, a, b, hj, h1, h2, rfl⟩)
        · exact ⟨u, List.mem_append_left _ hu, h⟩
        · refine ⟨t, List.mem_append_right _ (List.mem_singleton.mpr rfl), a, b, rfl, List.mem_of_getElem? h1, List.mem_of_mem_drop h2, ?_⟩
          obtain ⟨m, hm, e⟩ := List.mem_iff_getElem.mp h2
          have hj2 : j < t.2.length := (List.getElem?_eq_some_iff.mp h1).1
          have e1 : t.2[j] = a := (List.getElem?_eq_some_iff.mp h1).2
          rw [List.getElem_drop] at e
          have := List.pairwise_iff_getElem.mp hasc j (j + 1 + m) hj2 (by rw [List.length_drop] at hm; omega) (by omega)
          rw [e1, e] at this
          exact this
      · rintro ⟨u, hu, a, b, rfl, h1, h2, h3⟩
        rcases List.mem_append.mp hu with hu | hu
        · exact .inl ⟨u, hu, a, b, rfl, h1, h2, h3⟩
        · rw [List.mem_singleton.mp hu] at h1 h2
          obtain ⟨j, hj, ej⟩ := List.mem_iff_getElem.mp h1
          obtain ⟨m, hm, em⟩ := List.mem_iff_getElem.mp h2
          have hjm : j < m := by
            by_cases z : j < m
            · exact z
            · by_cases y : m < j
              · have := List.pairwise_iff_getElem.mp hasc m j hm hj y
                rw [ej, em] at this
                omega
              · have : j = m := by omega
                subst this
                rw [ej] at em
                omega
          refine .inr ⟨j, a, b, ?_, by rw [List.getElem?_eq_getElem hj, ej], ?_, rfl⟩
          · rw [enumD_len, List.length_map]; exact hj
          · rw [List.mem_iff_getElem]
            refine ⟨m - (j + 1), by rw [List.length_drop]; omega, ?_⟩
            rw [List.getElem_drop]
            have : j + 1 + (m - (j + 1)) = m := by omega
            simp only [this]
            exact em) L [] [some (.lst (es.map eE)), some (.obj S.length), none, none, none, none] (S ++ [.dT []]) rfl ⟨none, none, none, none, [], 0, rfl, rfl, KInv.nil.congr (fun w => by simp) (Nat.le_refl _)⟩
  obtain ⟨l, el, hn, hm⟩ := hK.words
  have hC : Cpl es l := ⟨hn, fun w => (hm w).trans ⟨fun ⟨t, ht, a, b, h1, h2, h3, h4⟩ => by
      obtain ⟨p, s, e⟩ := hE.frm t ht
      exact ⟨a, b, h1, h4, p, s, (hE.mem p s a).mp ⟨t, ht, e, h2⟩, (hE.mem p s b).mp ⟨t, ht, e, h3⟩⟩, fun ⟨a, b, h1, h2, p, s, h3, h4⟩ => by
      obtain ⟨t, ht, e, h5⟩ := (hE.mem p s a).mpr h3
      obtain ⟨u, hu, e2, h6⟩ := (hE.mem p s b).mpr h4
      have : u = t := by
        have key := hE.key
        have : ∀ (L : List (List Int × List Int)), (L.map fun t => t.1).Nodup → ∀ {t u : List Int × List Int}, t ∈ L → u ∈ L → t.1 = u.1 → t = u := by
          intro L
          induction L with
          | nil => intro _ t u ht; simp at ht
          | cons a r ih =>
            intro h t u ht hu e
            rw [List.map_cons, List.nodup_cons] at h
            rcases List.mem_cons.mp ht with h1 | h1
            · rcases List.mem_cons.mp hu with h2 | h2
              · rw [h1, h2]
              · exact absurd (by rw [← h1, e]; exact List.mem_map_of_mem (f := fun t : List Int × List Int => t.1) h2) h.1
            · rcases List.mem_cons.mp hu with h2 | h2
              · exact absurd (by rw [← h2, ← e]; exact List.mem_map_of_mem (f := fun t : List Int × List Int => t.1) h1) h.1
              · exact ih h.2 h1 h2 e
        exact this L key hu ht (e2.trans e.symm)
      subst this
      exact ⟨u, ht, a, b, h1, h5, h6, h2⟩⟩⟩
  refine ⟨l, hC, fn_pureT (T := [.dT kvs]) rfl ?_ (pure_lst (pure_map fun w _ => dW_pure w))⟩
  unfold u_couples_to_fold
  refine sq_nx (env' := [some (.lst (es.map eE)), some (.obj S.length), none, none, none, none]) (S' := S ++ [.dT []]) rfl ?_
  have hsrc : srcVals (eCB F_ends_of (aCons (eVar 0) aNil)) [some (.lst (es.map eE)), some (.obj S.length), none, none, none, none] (S ++ [.dT []]) = .ok (L.map fun t => D.lst (t.2.map .int)) (S ++ [.dT []]) := by
    unfold srcVals
    rw [(cb1_ok (f := eVar 0) rfl).trans run, R.bind_ok]
    simp only [valsD]
    rw [List.map_map]
    rfl
  refine sq_nx (for_nx hsrc e) ?_
  have hg := get_new S (D.dT kvs)
  exact sq_rt (ret_ok ((cb1_ok rfl).trans (sorted_dict (kvs := kvs) (l := l) (by simp only [conL, hg]) (by simp only [dicK, hg]) (by simp only [dicT, hg]) el (fun w hw => by
    obtain ⟨a, b, rfl, _⟩ := (hC.2 w).mp hw
    simp))))
end K48
set_option Elab.async false
set_option linter.all false
set_option maxRecDepth 100000
set_option maxHeartbeats 1000000
namespace K48
open PySem PySem.Spec PySem.W PyProof.Rows L2 Hx
open FG (E3 eS Cp St Fd mrg msr edge rose places)
theorem once_ok (es : List E3) (a b : Int) (hl : es.length ≤ 100000) (S : Store) : ∃ res : List E3, res.Nodup ∧ Mgd es a b res ∧ F_folded_once [.lst (es.map eE), dW [a, b]] S = .ok (.lst (res.map eE)) S := by
  obtain ⟨env', S', e, y5, y6, y7, kvs, rfl, rfl, hK⟩ := forL_inv (enc := eE) (g := gT [(gN 5), (gN 6), (gN 7)]) (u := (sSeq (sDPut (eVar 4) (eTup (aCons (eIf (bVal (e2 opEq (eVar 5) (eVar 3))) (eVar 2) (eVar 5)) (aCons (eVar 6) (aCons (eIf (bVal (e2 opEq (eVar 7) (eVar 3))) (eVar 2) (eVar 7)) aNil)))) (eC (.bl true))) sNil)) es
    (fun pre env S' => ∃ y5 y6 y7 kvs, env = [some (.lst (es.map eE)), some (dW [a, b]), some (.int a), some (.int b), some (.obj S.length), y5, y6, y7] ∧ S' = S ++ [.dT kvs] ∧ KInv kvs (fun w => ∃ e ∈ pre, w = wE (mE a b e)) pre.length)
    (fun pre e post env S' hes hR => by
      obtain ⟨y5, y6, y7, kvs, rfl, rfl, hK⟩ := hR
      have hpl : pre.length + 1 ≤ es.length := by rw [hes]; simp
      have hlen := hK.len
      have hd : Hx.sDPut (eVar 4) (eTup (aCons (eIf (bVal (e2 opEq (eVar 5) (eVar 3))) (eVar 2) (eVar 5)) (aCons (eVar 6) (aCons (eIf (bVal (e2 opEq (eVar 7) (eVar 3))) (eVar 2) (eVar 7)) aNil)))) (eC (.bl true)) [some (.lst (es.map eE)), some (dW [a, b]), some (.int a), some (.int b), some (.obj S.length), some (.int e.1), some (.int e.2.1), some (.int e.2.2)] (S ++ [.dT kvs]) = .nx [some (.lst (es.map eE)), some (dW [a, b]), some (.int a), some (.int b), some (.obj S.length), some (.int e.1), some (.int e.2.1), some (.int e.2.2)] ((S ++ [D.dT kvs]).set S.length (D.dT (Hx.pt kvs (kW (wE (mE a b e))) (.bl true)))) :=
        dput_ok (x := .obj S.length) (k := dW (wE (mE a b e))) rfl rfl (tup3_ok (mrg_if rfl rfl rfl) rfl (mrg_if rfl rfl rfl)) (putT_ok (get_new S _) (Nat.lt_of_lt_of_le (by omega : kvs.length < 200000) line_big) _ _)
      rw [set_new] at hd
      refine ⟨[some (.lst (es.map eE)), some (dW [a, b]), some (.int a), some (.int b), some (.obj S.length), some (.int e.1), some (.int e.2.1), some (.int e.2.2)], _, _, rfl, .inl (sq_nx hd rfl), _, _, _, _, rfl, rfl, (hK.pt (wE (mE a b e)) (.bl true)).congr (fun w => ?_) (by simp)⟩
      constructor
      · rintro (⟨x, hx, h⟩ | h)
        · exact ⟨x, List.mem_append_left _ hx, h⟩
        · exact ⟨e, List.mem_append_right _ (List.mem_singleton.mpr rfl), h⟩
      · rintro ⟨x, hx, h⟩
        rcases List.mem_append.mp hx with hx | hx
        · exact .inl ⟨x, hx, h⟩
        · rw [List.mem_singleton.mp hx] at h
          exact .inr h) es [] [some (.lst (es.map eE)), some (dW [a, b]), some (.int a), some (.int b), some (.obj S.length), none, none, none] (S ++ [.dT []]) rfl ⟨none, none, none, [], rfl, rfl, KInv.nil.congr (fun w => by simp) (Nat.le_refl _)⟩
  obtain ⟨l, el, hn, hm⟩ := hK.words
  obtain ⟨res, er⟩ := exists_map wE (l := l) fun w hw => by
    obtain ⟨x, _, e⟩ := (hm w).mp hw
    exact ⟨_, e⟩
  have hmem : ∀ x, x ∈ res ↔ ∃ e0 ∈ es, x = mE a b e0 := fun x => by
    have := hm (wE x)
    rw [er, List.mem_map] at this
    constructor
    · intro h
      obtain ⟨y, hy, e⟩ := this.mp ⟨x, h, rfl⟩
      exact ⟨y, hy, wE_inj e⟩
    · rintro ⟨y, hy, e⟩
      obtain ⟨z, hz, e2⟩ := this.mpr ⟨y, hy, by rw [e]⟩
      exact wE_inj e2 ▸ hz
  refine ⟨res, nodup_of_map wE (by rw [← er]; exact hn), hmem, fn_pureT (T := [.dT kvs]) rfl ?_ (pure_lst (pure_map fun w _ => rfl))⟩
  unfold u_folded_once
  refine sq_nx (env' := [some (.lst (es.map eE)), some (dW [a, b]), some (.int a), some (.int b), none, none, none, none]) (S' := S) rfl ?_
  refine sq_nx (env' := [some (.lst (es.map eE)), some (dW [a, b]), some (.int a), some (.int b), some (.obj S.length), none, none, none]) (S' := S ++ [.dT []]) rfl ?_
  refine sq_nx (for_nx (srcV_ok rfl rfl) e) ?_
  have hg := get_new S (D.dT kvs)
  refine sq_rt (ret_ok ((cb1_ok rfl).trans ?_))
  have h1 : seqL (S ++ [.dT kvs]) (.obj S.length) = none := by simp only [seqL, conL, hg]
  have h2 : dicT (S ++ [.dT kvs]) (.obj S.length) = some kvs := by simp only [dicT, hg]
  have h3 : (kvs.map fun kv => D.tup (kv.1.map ofKey)) = res.map eE := by
    have : (kvs.map fun kv => D.tup (kv.1.map ofKey)) = (kvs.map (·.1)).map fun k => D.tup (k.map ofKey) := by rw [List.map_map]; rfl
    rw [this, el, er, List.map_map, List.map_map]
    refine List.map_congr_left fun x _ => ?_
    show D.tup ((kW (wE x)).map ofKey) = eE x
    rw [of_kW]
    rfl
  simp only [biList, h1, h2, h3, FZ]
theorem folded_edges_ok (es : List E3) (N n : Nat) (hp : PlOk N n es) (hl : es.length ≤ 10000) (hN : N ≤ 900) (S : Store) :
    ∃ fs fin, Run es fs fin ∧ fin.length ≤ es.length ∧ F_folded_edges [.lst (es.map eE)] S = .ok (.tup [.lst (fin.map eE), .tup (fs.map dW)]) S := by
  obtain ⟨l0, c0, ec0⟩ := couples_ok es N n hp hN hl (S ++ [.lst []])
  obtain ⟨env', S', e, fin, fs, rfl, rfl, hl1, c1, hrun⟩ := sWhile_go (c := (bVal (e2 opNe (eVar 2) (eLst FZ aNil)))) (u := (sSeq (sExpr (eMt ckL mtAppend (eVar 1) (aCons (e2 opIx (eVar 2) (eC (.int 0))) aNil)))
    (sSeq (sSet 0 (eCB F_folded_once (aCons (eVar 0) (aCons (e2 opIx (eVar 2) (eC (.int 0))) aNil))))
    (sSeq (sSet 2 (eCB F_couples_to_fold (aCons (eVar 0) aNil)))
    sNil))))
    (env := [some (.lst (es.map eE)), some (.obj S.length), some (.lst ((srtW l0).map dW))]) (S := S ++ [.lst []])
    (fun m env S' => ∃ cur fs l, m = msr N cur ∧ env = [some (.lst (cur.map eE)), some (.obj S.length), some (.lst ((srtW l).map dW))] ∧ S' = S ++ [.lst (fs.map dW)] ∧ PlOk N n cur ∧ cur.length ≤ es.length ∧ Cpl cur l ∧ fs.length + m ≤ N ∧ ∀ fs' fin, Run cur fs' fin → Run es (fs ++ fs') fin)
    (fun env S' => ∃ cur fs, env = [some (.lst (cur.map eE)), some (.obj S.length), some (.lst [])] ∧ S' = S ++ [.lst (fs.map dW)] ∧ cur.length ≤ es.length ∧ Cpl cur [] ∧ ∀ fs' fin, Run cur fs' fin → Run es (fs ++ fs') fin)
    (msr N es) (by have := FG.msr_le N es; omega) ⟨es, [], l0, rfl, rfl, rfl, hp, Nat.le_refl _, c0, by have := FG.msr_le N es; simp; omega, fun fs' fin r => r⟩
    (fun m env S' hR => by
      obtain ⟨cur, fs, l, rfl, rfl, rfl, hp, hl2, c, hm, hrun⟩ := hR
      have hb : (bVal (e2 opNe (eVar 2) (eLst FZ aNil))) [some (.lst (cur.map eE)), some (.obj S.length), some (.lst ((srtW l).map dW))] (S ++ [.lst (fs.map dW)]) = .ok (!(srtW l).isEmpty) (S ++ [.lst (fs.map dW)]) :=
        bval_ok ((e2_ok rfl (lst0 _ _)).trans (ne_words _ _))
      cases el : srtW l with
      | nil =>
        have l0 : l = [] := by
          have := srtW_len l
          rw [el] at this
          exact List.length_eq_zero_iff.mp this.symm
        subst l0
        rw [el] at hb
        exact .inl ⟨hb, cur, fs, rfl, rfl, hl2, c, hrun⟩
      | cons w t =>
        have hw : w ∈ l := mem_srtW.mp (by rw [el]; exact List.mem_cons_self)
        obtain ⟨a, b, rfl, hab, hcp⟩ := (c.2 w).mp hw
        rw [el] at hb
        obtain ⟨res, r1, r2, r3⟩ := once_ok cur a b (by omega) (S ++ [.lst ((fs ++ [[a, b]]).map dW)])
        have hp2 := hp.mgd hcp r2
        obtain ⟨l2, c2, ec2⟩ := couples_ok res N n hp2 hN (by have := r2.len r1; omega) (S ++ [.lst ((fs ++ [[a, b]]).map dW)])
        have hms := r2.msr hp hcp (by omega)
        have h0 : ∀ S', opIx (.lst (([a, b] :: t).map dW)) (.int 0) S' = .ok (dW [a, b]) S' := fun S' => opIx_ok (j := 0) rfl rfl
        refine .inr ⟨_, _, _, _, hb, ?_, hms, res, fs ++ [[a, b]], l2, rfl, rfl, rfl, hp2, by have := r2.len r1; omega, c2, by simp; omega, fun fs' fin r => ?_⟩
        · refine sq_nx (env' := [some (.lst (cur.map eE)), some (.obj S.length), some (.lst (([a, b] :: t).map dW))]) (S' := S ++ [.lst ((fs ++ [[a, b]]).map dW)]) ?_ ?_
          · have hg := get_new S (D.lst (fs.map dW))
            have := app_st (f := eVar 1) (g := (e2 opIx (eVar 2) (eC (.int 0)))) (env := [some (.lst (cur.map eE)), some (.obj S.length), some (.lst (([a, b] :: t).map dW))]) (S := S ++ [.lst (fs.map dW)]) rfl hg ((e2_ok rfl rfl).trans (h0 _)) hg (by rw [List.length_map]; exact Nat.lt_of_lt_of_le (by omega : fs.length < 200000) line_big)
            rw [this, set_new, List.map_append]
            rfl
          refine sq_nx ((set_ok ((cb2_ok rfl ((e2_ok rfl rfl).trans (h0 _))).trans r3))) ?_
          refine sq_nx ((set_ok ((cb1_ok rfl).trans ec2))) ?_
          rfl
        · have := hrun _ _ (Run.step c el r2 r)
          rw [List.append_assoc]
          exact this)
  refine ⟨fs, fin, ?_, hl1, ?_⟩
  · have := hrun [] fin (.stop c1)
    rw [List.append_nil] at this
    exact this
  · refine fn_pureT (T := [.lst (fs.map dW)]) rfl ?_ (pure_tup fun x hx => ?_)
    · unfold u_folded_edges
      refine sq_nx (env' := [some (.lst (es.map eE)), some (.obj S.length), some (.lst ((srtW l0).map dW))]) (S' := S ++ [.lst []]) ?_ ?_
      · show sPar 1 2 _ [some (.lst (es.map eE)), none, none] S = _
        have h0 : eLst BX aNil [some (.lst (es.map eE)), none, none] S = .ok (.obj S.length) (S ++ [.lst []]) := rfl
        simp only [sPar, aCons, aNil, h0, eCB, eVar, List.getElem?_cons_succ, List.getElem?_cons_zero, R.bind_ok, ec0, bindS_ok]
        rfl
      refine sq_nx e ?_
      have hg := get_new S (D.lst (fs.map dW))
      refine sq_rt (ret_ok (tup2_ok rfl ((cb1_ok rfl).trans ?_)))
      simp only [biTuple, seq_obj hg]
    · simp only [List.mem_cons, List.not_mem_nil, or_false] at hx
      rcases hx with rfl | rfl
      · exact pure_lst (pure_map fun a _ => rfl)
      · exact pure_tup (pure_map fun a _ => dW_pure a)
end K48
set_option Elab.async false
set_option linter.all false
set_option maxRecDepth 100000
set_option maxHeartbeats 1000000
namespace K48
open PySem PySem.Spec PySem.W PyProof.Rows L2 Hx
open FG (E3 eS Cp St Fd Rd mrg msr edge rose places signs stage ext gr ix)
def kvI (L : List Int) : List (L2.Key × D) := L.zipIdx.map fun p => (.inl p.1, .int (p.2 : Int))
theorem kvI_snoc (L : List Int) (q : Int) : kvI (L ++ [q]) = kvI L ++ [(.inl q, .int (L.length : Int))] := by
  unfold kvI
  rw [List.zipIdx_append, List.map_append]
  simp
theorem lk_kvI (L : List Int) (q : Int) : lk (kvI L) (.inl q) = if q ∈ L then some (.int ((L.idxOf q : Nat) : Int)) else none := by
  have key : ∀ (L : List Int) (k : Nat), lk ((L.zipIdx k).map fun p => ((.inl p.1 : L2.Key), D.int (p.2 : Int))) (.inl q) = if q ∈ L then some (.int ((k + L.idxOf q : Nat) : Int)) else none := by
    intro L
    induction L with
    | nil => intro k; simp [lk]
    | cons a r ih =>
      intro k
      rw [List.zipIdx_cons, List.map_cons, lk_cons, ih]
      by_cases e : a = q
      · subst e
        simp
      · have h1 : ¬ (Sum.inl a : L2.Key) = Sum.inl q := fun z => e (Sum.inl.inj z)
        have h2 : ¬ q = a := fun z => e z.symm
        rw [if_neg h1, List.idxOf_cons]
        have h3 : (a == q) = false := by simpa using e
        rw [h3]
        by_cases z : q ∈ r
        · rw [if_pos z, if_pos (List.mem_cons_of_mem _ z)]
          congr 3
          simp only [cond_false]
          omega
        · rw [if_neg z, if_neg (by simp [h2, z])]
  have := key L 0
  unfold kvI
  rw [this]
  simp only [Nat.zero_add]
theorem kvI_pure (L : List Int) : (D.dK (kvI L)).pure = true := by
  rw [D.pure]
  unfold kvI
  have : ∀ l : List (Int × Nat), D.pureK (l.map fun p => ((.inl p.1 : L2.Key), D.int (p.2 : Int))) = true := by
    intro l
    induction l with
    | nil => rfl
    | cons a r ih => rw [List.map_cons, D.pureK, ih]; rfl
  exact this _
theorem kvI_len (L : List Int) : (kvI L).length = L.length := by
  unfold kvI
  rw [List.length_map, List.length_zipIdx]
/-- what a sign leads to, in the dict -/
theorem ends_get {es : List E3} {L : List (List Int × List Int)} (hE : Ends es L) {on : Int → Int → Option Int} (r : Rd (eS es) on) (f : Fd (eS es)) (p s : Int) : (lk (L.map fun t => (kW t.1, D.lst (t.2.map .int))) (kW [p, s])).getD (.lst []) = .lst ((on p s).toList.map .int) := by
  have hk : ((L.map fun t => (kW t.1, D.lst (t.2.map .int))).map (·.1)).Nodup := by
    rw [List.map_map]
    have : ((fun x : List L2.Key × D => x.1) ∘ fun t : List Int × List Int => (kW t.1, D.lst (t.2.map .int))) = fun t => kW t.1 := rfl
    rw [this]
    have h := map_of_nodup kW (fun a b => kW_inj) hE.key
    rw [List.map_map] at h
    exact h
  cases e : on p s with
  | some q =>
    obtain ⟨t, ht, h1, h2⟩ := (hE.mem p s q).mpr ((r p s q).mp e)
    have hall : ∀ x ∈ t.2, x = q := fun x hx => f p s x q ((hE.mem p s x).mp ⟨t, ht, h1, hx⟩) ((r p s q).mp e)
    have h3 : t.2 = [q] := by
      have hs := hE.srt t ht
      cases h4 : t.2 with
      | nil => rw [h4] at h2; simp at h2
      | cons a l =>
        rw [h4] at hall hs
        have ha := hall a List.mem_cons_self
        subst ha
        cases l with
        | nil => rfl
        | cons b l =>
          have hb := hall b (by simp)
          rw [List.pairwise_cons] at hs
          have := hs.1 b List.mem_cons_self
          omega
    have : lk (L.map fun t => (kW t.1, D.lst (t.2.map .int))) (kW [p, s]) = some (.lst (t.2.map .int)) := by
      refine lk_of_mem hk ?_
      rw [← h1]
      exact List.mem_map_of_mem (f := fun t : List Int × List Int => (kW t.1, D.lst (t.2.map .int))) ht
    rw [this, h3]
    rfl
  | none =>
    have : lk (L.map fun t => (kW t.1, D.lst (t.2.map .int))) (kW [p, s]) = none := by
      rw [lk_none, List.map_map, List.mem_map]
      rintro ⟨t, ht, h1⟩
      have h1' : t.1 = [p, s] := kW_inj h1
      obtain ⟨x, hx⟩ := List.exists_mem_of_ne_nil _ (hE.ne t ht)
      rw [(r p s x).mpr ((hE.mem p s x).mp ⟨t, ht, h1', hx⟩)] at e
      cases e
    rw [this]
    rfl
theorem get2_ok {f g h : SE} {env : Ev} {S : Store} {kvs : Kv} {w : List Int} {z : D} (h1 : f env S = .ok (.dT kvs) S) (h2 : g env S = .ok (dW w) S) (h3 : h env S = .ok z S) : eGet2 f g h env S = .ok ((lk kvs (kW w)).getD z) S := by
  have e1 : isDic S (.dT kvs) = true := by simp [isDic, dicK, dicT]
  have e2 : lookD S (.dT kvs) (dW w) = some (lk kvs (kW w)) := by
    unfold lookD
    simp only [dicK, dicT, keyT_W]
  unfold eGet2
  rw [h1, R.bind_ok]
  simp only [e1, if_true]
  rw [h2, R.bind_ok, h3, R.bind_ok]
  simp only [e2]
theorem dnot_ok {S : Store} {i : Nat} {L : List Int} (h : S[i]? = some (.dK (kvI L))) (q : Int) : opDNot (.int q) (.obj i) S = .ok (.bl (!decide (q ∈ L))) S := by
  unfold opDNot lookD
  simp only [dicK, h, keyK, lk_kvI]
  by_cases z : q ∈ L
  · simp [z]
  · simp [z]
theorem knowns_put {S : Store} {i : Nat} {L : List Int} (h : S[i]? = some (.dK (kvI L))) (hl : L.length < 200000) {q : Int} (hq : q ∉ L) : putD S (.obj i) (.int q) (.int (L.length : Int)) = some (i, .dK (kvI (L ++ [q]))) := by
  rw [putK_ok h (by rw [kvI_len]; exact Nat.lt_of_lt_of_le hl line_big)]
  have : pt (kvI L) (.inl q) (.int (L.length : Int)) = kvI (L ++ [q]) := by
    unfold pt
    rw [any_lk, lk_kvI, if_neg hq, kvI_snoc]
    rfl
  rw [this]
def ngC : SS := (sSeq (sIf (bVal (e2 opDNot (eVar 7) (eVar 4))) (sSeq (sDPut (eVar 4) (eVar 7) (eCB (biLen) (aCons (eVar 3) aNil)))
    (sSeq (sExpr (eMt ckL mtAppend (eVar 3) (aCons (eVar 7) aNil)))
    sNil)) sNil)
    sNil)
abbrev gS (S : Store) (L : List Int) : Store := S ++ [D.lst (L.map .int), D.dK (kvI L)]
theorem gS_0 (S : Store) (L : List Int) : (gS S L)[S.length]? = some (.lst (L.map .int)) := by
  unfold gS
  rw [List.getElem?_append_right (Nat.le_refl _), Nat.sub_self]
  rfl
theorem gS_1 (S : Store) (L : List Int) : (gS S L)[S.length + 1]? = some (.dK (kvI L)) := by
  unfold gS
  rw [List.getElem?_append_right (Nat.le_succ _), Nat.succ_sub (Nat.le_refl _), Nat.sub_self]
  rfl
theorem ngC_ok (x0 x1 x2 x5 x6 : Option D) (y : List (Option D)) (S : Store) (L : List Int) (q : Int) (hl : L.length < 100000) :
    ngC (x0 :: x1 :: x2 :: some (.obj S.length) :: some (.obj (S.length + 1)) :: x5 :: x6 :: some (.int q) :: y) (gS S L) =
      .nx (x0 :: x1 :: x2 :: some (.obj S.length) :: some (.obj (S.length + 1)) :: x5 :: x6 :: some (.int q) :: y) (gS S (if q ∈ L then L else L ++ [q])) := by
  unfold ngC
  have hb : (bVal (e2 opDNot (eVar 7) (eVar 4))) (x0 :: x1 :: x2 :: some (.obj S.length) :: some (.obj (S.length + 1)) :: x5 :: x6 :: some (.int q) :: y) (gS S L) = .ok (!decide (q ∈ L)) (gS S L) :=
    bval_ok ((e2_ok rfl rfl).trans (dnot_ok (gS_1 S L) q))
  by_cases z : q ∈ L
  · rw [if_pos z]
    have hb' : (!decide (q ∈ L)) = false := by simp [z]
    rw [hb'] at hb
    exact sq_nx ((if_no hb).trans rfl) rfl
  · rw [if_neg z]
    have hb' : (!decide (q ∈ L)) = true := by simp [z]
    rw [hb'] at hb
    refine sq_nx ((if_yes hb).trans ?_) rfl
    have hlen : (eCB (biLen) (aCons (eVar 3) aNil)) (x0 :: x1 :: x2 :: some (.obj S.length) :: some (.obj (S.length + 1)) :: x5 :: x6 :: some (.int q) :: y) (gS S L) = .ok (.int (L.length : Int)) (gS S L) := by
      refine (cb1_ok (a := .obj S.length) rfl).trans ?_
      rw [len_ok (seq_obj (gS_0 S L)), List.length_map]
    have hput := dput_ok (f := eVar 4) (g := eVar 7) (h := (eCB (biLen) (aCons (eVar 3) aNil))) hlen rfl rfl (knowns_put (gS_1 S L) (by omega) z)
    have e1 : (gS S L).set (S.length + 1) (.dK (kvI (L ++ [q]))) = S ++ [D.lst (L.map .int), D.dK (kvI (L ++ [q]))] := by
      unfold gS
      rw [List.set_append_right _ _ (Nat.le_succ _), Nat.succ_sub (Nat.le_refl _), Nat.sub_self]
      rfl
    rw [e1] at hput
    refine sq_nx hput (sq_nx ?_ rfl)
    have h0 : (S ++ [D.lst (L.map .int), D.dK (kvI (L ++ [q]))])[S.length]? = some (.lst (L.map .int)) := by
      rw [List.getElem?_append_right (Nat.le_refl _), Nat.sub_self]
      rfl
    have happ := app_st (f := eVar 3) (g := eVar 7) (env := (x0 :: x1 :: x2 :: some (.obj S.length) :: some (.obj (S.length + 1)) :: x5 :: x6 :: some (.int q) :: y)) rfl h0 rfl h0 (by rw [List.length_map]; exact Nat.lt_of_lt_of_le (by omega : L.length < 200000) line_big)
    rw [happ]
    refine congrArg (SR.nx _) ?_
    unfold gS
    rw [List.set_append_right _ _ (Nat.le_refl _), Nat.sub_self, List.map_append]
    rfl
/-- one sign -/
def ngB : SS := (sSeq (sFor (srcV (eGet2 (eVar 2) (eTup (aCons (e2 opIx (eVar 3) (eVar 5)) (aCons (eVar 6) aNil))) (eLst FZ aNil))) (gN 7) ngC) sNil)
theorem ngB_ok {es : List E3} {EL : List (List Int × List Int)} (hE : Ends es EL) {on : Int → Int → Option Int} (r : Rd (eS es) on) (f : Fd (eS es)) (x0 x1 x7 : Option D) (y : List (Option D)) (S : Store) (L : List Int) (k : Nat) (p s : Int) (hk : L[k]? = some p) (hl : L.length < 100000) :
    ∃ x7', ngB (x0 :: x1 :: some (dEnds EL) :: some (.obj S.length) :: some (.obj (S.length + 1)) :: some (.int (k : Int)) :: some (.int s) :: x7 :: y) (gS S L) =
      .nx (x0 :: x1 :: some (dEnds EL) :: some (.obj S.length) :: some (.obj (S.length + 1)) :: some (.int (k : Int)) :: some (.int s) :: x7' :: y) (gS S (match on p s with
        | some q => if q ∈ L then L else L ++ [q]
        | none => L)) := by
  have hget : (eGet2 (eVar 2) (eTup (aCons (e2 opIx (eVar 3) (eVar 5)) (aCons (eVar 6) aNil))) (eLst FZ aNil)) (x0 :: x1 :: some (dEnds EL) :: some (.obj S.length) :: some (.obj (S.length + 1)) :: some (.int (k : Int)) :: some (.int s) :: x7 :: y) (gS S L) = .ok (.lst ((on p s).toList.map .int)) (gS S L) := by
    have h1 : (eTup (aCons (e2 opIx (eVar 3) (eVar 5)) (aCons (eVar 6) aNil))) (x0 :: x1 :: some (dEnds EL) :: some (.obj S.length) :: some (.obj (S.length + 1)) :: some (.int (k : Int)) :: some (.int s) :: x7 :: y) (gS S L) = .ok (dW [p, s]) (gS S L) := by
      refine tup2_ok (a := .int p) (b := .int s) ((e2_ok (a := .obj S.length) (b := .int (k : Int)) rfl rfl).trans ?_) rfl
      exact opIx_ok (seq_obj (gS_0 S L)) (by rw [List.getElem?_map, hk]; rfl)
    rw [get2_ok (f := eVar 2) rfl h1 (lst0 _ _), ends_get hE r f p s]
  unfold ngB
  cases e : on p s with
  | none =>
    rw [e] at hget
    exact ⟨x7, sq_nx (for_nx (srcV_ok hget rfl) rfl) rfl⟩
  | some q =>
    rw [e] at hget
    refine ⟨some (.int q), sq_nx (for_nx (srcV_ok hget rfl) ?_) rfl⟩
    have := ngC_ok x0 x1 (some (dEnds EL)) (some (.int (k : Int))) (some (.int s)) y S L q hl
    show forL (gN 7) ngC [.int q] _ _ = _
    unfold forL
    have hg : gN 7 (.int q) (x0 :: x1 :: some (dEnds EL) :: some (.obj S.length) :: some (.obj (S.length + 1)) :: some (.int (k : Int)) :: some (.int s) :: x7 :: y) = some (x0 :: x1 :: some (dEnds EL) :: some (.obj S.length) :: some (.obj (S.length + 1)) :: some (.int (k : Int)) :: some (.int s) :: some (.int q) :: y) := rfl
    rw [hg]
    dsimp only
    rw [this]
    rfl
end K48
set_option Elab.async false
set_option linter.all false
set_option maxRecDepth 100000
set_option maxHeartbeats 1000000
namespace K48
open PySem PySem.Spec PySem.W PyProof.Rows L2 Hx
open FG (E3 eS Cp St Fd Rd mrg msr edge rose places signs stage ext gr ix)
theorem known_ok {f : SE} {env : Ev} {S : Store} {L : List Int} {q : Int} (h4 : env[4]? = some (some (.dK (kvI L)))) (hf : f env S = .ok (.int q) S) (hq : q ∈ L) : eDGet (eVar 4) f env S = .ok (.int ((L.idxOf q : Nat) : Int)) S := by
  have hv : eVar 4 env S = .ok (.dK (kvI L)) S := by unfold eVar; rw [h4]
  unfold eDGet
  refine (e2_ok hv hf).trans ?_
  unfold opDGet lookD
  simp only [dicK, keyK, lk_kvI, hq, if_true]
def nrB : SS := (sSeq (sSet 12 (eLc FZ (srcV (eTup (aCons (eVar 11) (aCons (e1 opNeg (eVar 11)) aNil)))) (gN 6) [6] bYes (eGet2 (eVar 2) (eTup (aCons (eVar 9) (aCons (eVar 6) aNil))) (eLst FZ aNil))))
    (sSeq (sExpr (eMt ckL mtAppend (eVar 10) (aCons (eCB (biTuple) (aCons (eLc FZ (srcV (eVar 12)) (gN 13) [13] bYes (eIf (bVal (e2 opNe (eVar 13) (eLst FZ aNil))) (eDGet (eVar 4) (e2 opIx (eVar 13) (eC (.int 0)))) (eC .non))) aNil)) aNil)))
    sNil))
theorem nrB_ok {es : List E3} {EL : List (List Int × List Int)} (hE : Ends es EL) {on : Int → Int → Option Int} (r : Rd (eS es) on) (f : Fd (eS es)) (n : Nat) (L : List Int) (hF : Full n on L) (x0 x1 x3 x5 x6 x7 x8 x12 x13 : Option D) (p : Int) (hp : p ∈ L) (a : Nat) (ha : a < n) (i : Nat) (S : Store) (xs : List D) (hg : S[i]? = some (.lst xs)) (hx : xs.length < sizeLine) :
    nrB [x0, x1, some (dEnds EL), x3, some (.dK (kvI L)), x5, x6, x7, x8, some (.int p), some (.obj i), some (.int (1 + (a : Int))), x12, x13] S =
      .nx [x0, x1, some (dEnds EL), x3, some (.dK (kvI L)), x5, x6, x7, x8, some (.int p), some (.obj i), some (.int (1 + (a : Int))), some (.lst [.lst ((on p (a + 1)).toList.map .int), .lst ((on p (-(a + 1))).toList.map .int)]), x13]
        (S.set i (.lst (xs ++ [dB (ix L (on p (a + 1)), ix L (on p (-(a + 1))))]))) := by
  unfold nrB
  have s1 : ((1 : Int) + (a : Int)) = (a : Int) + 1 := Int.add_comm _ _
  have m1 : ((a : Int) + 1) ∈ signs n := FG.mem_signs.mpr ⟨by omega, by omega⟩
  have m2 : (-((a : Int) + 1)) ∈ signs n := FG.mem_signs.mpr ⟨by omega, by omega⟩
  refine sq_nx (env' := [x0, x1, some (dEnds EL), x3, some (.dK (kvI L)), x5, x6, x7, x8, some (.int p), some (.obj i), some (.int (1 + (a : Int))), some (.lst [.lst ((on p (a + 1)).toList.map .int), .lst ((on p (-(a + 1))).toList.map .int)]), x13]) (S' := S) ?_ ?_
  · have hlc : (eLc FZ (srcV (eTup (aCons (eVar 11) (aCons (e1 opNeg (eVar 11)) aNil)))) (gN 6) [6] bYes (eGet2 (eVar 2) (eTup (aCons (eVar 9) (aCons (eVar 6) aNil))) (eLst FZ aNil))) [x0, x1, some (dEnds EL), x3, some (.dK (kvI L)), x5, x6, x7, x8, some (.int p), some (.obj i), some (.int (1 + (a : Int))), x12, x13] S = .ok (.lst ([(a : Int) + 1, -((a : Int) + 1)].map fun s => D.lst ((on p s).toList.map .int))) S := by
      refine lc_fz (enc := D.int) (as := [(a : Int) + 1, -((a : Int) + 1)]) (S1 := S) (fun s => D.lst ((on p s).toList.map .int)) (srcV_ok (tup2_ok (a := .int (1 + (a : Int))) (b := .int (-(1 + (a : Int)))) rfl rfl) (by rw [s1]; rfl)) (fun s _ => ?_) (small_line (by simp))
      refine ⟨[x0, x1, some (dEnds EL), x3, some (.dK (kvI L)), x5, some (.int s), x7, x8, some (.int p), some (.obj i), some (.int (1 + (a : Int))), x12, x13], rfl, ?_⟩
      rw [get2_ok (f := eVar 2) (w := [p, s]) rfl (tup2_ok rfl rfl) (lst0 _ _), ends_get hE r f p s]
    exact set_ok hlc
  refine sq_nx ?_ rfl
  have hlc2 : (eLc FZ (srcV (eVar 12)) (gN 13) [13] bYes (eIf (bVal (e2 opNe (eVar 13) (eLst FZ aNil))) (eDGet (eVar 4) (e2 opIx (eVar 13) (eC (.int 0)))) (eC .non))) [x0, x1, some (dEnds EL), x3, some (.dK (kvI L)), x5, x6, x7, x8, some (.int p), some (.obj i), some (.int (1 + (a : Int))), some (.lst [.lst ((on p (a + 1)).toList.map .int), .lst ((on p (-(a + 1))).toList.map .int)]), x13] S = .ok (.lst ([on p (a + 1), on p (-(a + 1))].map fun o => oN (ix L o))) S := by
    refine lc_fz (enc := fun o : Option Int => D.lst (o.toList.map .int)) (as := [on p (a + 1), on p (-(a + 1))]) (S1 := S) (fun o => oN (ix L o)) (srcV_ok rfl rfl) (fun o ho => ?_) (small_line (by simp))
    refine ⟨[x0, x1, some (dEnds EL), x3, some (.dK (kvI L)), x5, x6, x7, x8, some (.int p), some (.obj i), some (.int (1 + (a : Int))), some (.lst [.lst ((on p (a + 1)).toList.map .int), .lst ((on p (-(a + 1))).toList.map .int)]), some (.lst (o.toList.map .int))], rfl, ?_⟩
    have hb := bval_ok ((e2_ok (k := opNe) (f := eVar 13) (env := [x0, x1, some (dEnds EL), x3, some (.dK (kvI L)), x5, x6, x7, x8, some (.int p), some (.obj i), some (.int (1 + (a : Int))), some (.lst [.lst ((on p (a + 1)).toList.map .int), .lst ((on p (-(a + 1))).toList.map .int)]), some (.lst (o.toList.map .int))]) rfl (lst0 _ S)).trans (ne_ints o.toList S))
    cases o with
    | none => exact (eif_no hb).trans rfl
    | some q =>
      refine (eif_yes hb).trans ?_
      refine known_ok rfl ((e2_ok (a := .lst [.int q]) rfl rfl).trans (opIx_ok (j := 0) rfl rfl)) ?_
      simp only [List.mem_cons, List.not_mem_nil, or_false] at ho
      rcases ho with ho | ho
      · exact hF p hp _ m1 q ho.symm
      · exact hF p hp _ m2 q ho.symm
  exact app_st (S1 := S) rfl hg ((cb1_ok hlc2).trans rfl) hg hx
theorem numbered_ok (es : List E3) (N n : Nat) (hp : PlOk N n es) (h0 : 0 < N) (hN : N ≤ 1000) (hn : n ≤ 100) (hl : es.length ≤ 10000) (f : Fd (eS es)) (S : Store) :
    F_numbered_graph [.int (n : Int), .lst (es.map eE)] S = .ok (dG (gr n (onL' es) (stage (signs n) (onL' es) N))) S := by
  have rd := rd_on (fun e he => (hp.act e he).1) f
  have few := stage_few hp h0 rd (signs n)
  obtain ⟨EL, hE, run⟩ := ends_of_ok es (fun e he => (hp.act e he).1) hl S
  suffices h : ∃ T, u_numbered_graph ([D.int (n : Int), .lst (es.map eE)].map some ++ List.replicate (14 - 2) none) S = .rt (dG (gr n (onL' es) (stage (signs n) (onL' es) N))) (S ++ T) by
    obtain ⟨T, h⟩ := h
    exact fn_pureT rfl h (dG_pure _)
  obtain ⟨env1, S1, e1, x6, x7, L, rfl, rfl, eL, hF⟩ := sWhile_go (c := (bVal (e2 opLt (eVar 5) (eCB (biLen) (aCons (eVar 3) aNil))))) (u := (sSeq (sFor (srcV (eCB F_act_signs (aCons (eVar 0) aNil))) (gN 6) ngB) (sSeq (sAug 5 (Hx.opI (fun _ _ => true) fun a b => .int (a + b)) (eC (.int 1))) sNil)))
    (env := [some (.int (n : Int)), some (.lst (es.map eE)), some (dEnds EL), some (.obj S.length), some (.obj (S.length + 1)), some (.int ((0 : Nat) : Int)), none, none, none, none, none, none, none, none]) (S := gS S [0])
    (fun m env S' => ∃ x6 x7 k, m = N - k ∧ k ≤ (stage (signs n) (onL' es) k).length ∧ env = [some (.int (n : Int)), some (.lst (es.map eE)), some (dEnds EL), some (.obj S.length), some (.obj (S.length + 1)), some (.int (k : Int)), x6, x7, none, none, none, none, none, none] ∧ S' = gS S (stage (signs n) (onL' es) k))
    (fun env S' => ∃ x6 x7 L, env = [some (.int (n : Int)), some (.lst (es.map eE)), some (dEnds EL), some (.obj S.length), some (.obj (S.length + 1)), some (.int ((L.length : Nat) : Int)), x6, x7, none, none, none, none, none, none] ∧ S' = gS S L ∧ stage (signs n) (onL' es) N = L ∧ Full n (onL' es) L)
    N (by omega) ⟨none, none, 0, rfl, Nat.zero_le _, rfl, rfl⟩ (fun m env S' hR => by
      obtain ⟨x6, x7, k, rfl, hk, rfl, rfl⟩ := hR
      have hfew := few k
      have hb : (bVal (e2 opLt (eVar 5) (eCB (biLen) (aCons (eVar 3) aNil)))) [some (.int (n : Int)), some (.lst (es.map eE)), some (dEnds EL), some (.obj S.length), some (.obj (S.length + 1)), some (.int (k : Int)), x6, x7, none, none, none, none, none, none] (gS S (stage (signs n) (onL' es) k)) = .ok (decide ((k : Int) < ((stage (signs n) (onL' es) k).length : Nat))) (gS S (stage (signs n) (onL' es) k)) := by
        refine bval_ok ((e2_ok (a := .int (k : Int)) (b := .int ((stage (signs n) (onL' es) k).length : Nat)) (S1 := gS S (stage (signs n) (onL' es) k)) (S2 := gS S (stage (signs n) (onL' es) k)) rfl ?_).trans rfl)
        refine (cb1_ok rfl).trans ((len_ok (seq_obj (gS_0 S _))).trans ?_)
        rw [List.length_map]
      by_cases q : k < (stage (signs n) (onL' es) k).length
      · obtain ⟨p, hpk⟩ : ∃ p, (stage (signs n) (onL' es) k)[k]? = some p := ⟨_, List.getElem?_eq_getElem q⟩
        have hst : stage (signs n) (onL' es) (k + 1) = ext (signs n) (onL' es p) (stage (signs n) (onL' es) k) := by
          show (match (stage (signs n) (onL' es) k)[k]? with
            | some p => ext (signs n) (onL' es p) (stage (signs n) (onL' es) k)
            | none => stage (signs n) (onL' es) k) = _
          rw [hpk]
        have hlen1 : (stage (signs n) (onL' es) k).length ≤ (stage (signs n) (onL' es) (k + 1)).length := by
          obtain ⟨r, er⟩ := FG.stage_pre1 (sg := signs n) (on := onL' es) k
          rw [er, List.length_append]
          omega
        refine .inr ?_
        obtain ⟨env2, S2, e2, y6, y7, rfl, rfl⟩ := forL_inv (enc := D.int) (g := gN 6) (u := ngB) (signs n) (fun pre env S2 => ∃ y6 y7, env = [some (.int (n : Int)), some (.lst (es.map eE)), some (dEnds EL), some (.obj S.length), some (.obj (S.length + 1)), some (.int (k : Int)), y6, y7, none, none, none, none, none, none] ∧ S2 = gS S (ext pre (onL' es p) (stage (signs n) (onL' es) k)))
          (fun pre s post env S2 hsg hR => by
            obtain ⟨y6, y7, rfl, rfl⟩ := hR
            obtain ⟨r, er⟩ := FG.ext_pre (onL' es p) pre (stage (signs n) (onL' es) k)
            have hle : (ext pre (onL' es p) (stage (signs n) (onL' es) k)).length ≤ N := by
              obtain ⟨t, et⟩ := FG.ext_pre (onL' es p) (s :: post) (ext pre (onL' es p) (stage (signs n) (onL' es) k))
              have : ext (signs n) (onL' es p) (stage (signs n) (onL' es) k) = ext (s :: post) (onL' es p) (ext pre (onL' es p) (stage (signs n) (onL' es) k)) := by
                rw [hsg]
                unfold FG.ext
                rw [List.foldl_append]
              rw [← hst, et] at this
              have h2 := few (k + 1)
              rw [this, List.length_append] at h2
              omega
            obtain ⟨x7', hB⟩ := ngB_ok hE rd f (some (.int (n : Int))) (some (.lst (es.map eE))) y7 [none, none, none, none, none, none] S (ext pre (onL' es p) (stage (signs n) (onL' es) k)) k p s (by rw [er, List.getElem?_append_left q]; exact hpk) (by omega)
            refine ⟨[some (.int (n : Int)), some (.lst (es.map eE)), some (dEnds EL), some (.obj S.length), some (.obj (S.length + 1)), some (.int (k : Int)), some (.int s), y7, none, none, none, none, none, none], _, _, rfl, .inl hB, some (.int s), x7', rfl, ?_⟩
            exact congrArg (gS S) (ext_snoc (onL' es p) pre s (stage (signs n) (onL' es) k)).symm) (signs n) [] [some (.int (n : Int)), some (.lst (es.map eE)), some (dEnds EL), some (.obj S.length), some (.obj (S.length + 1)), some (.int (k : Int)), x6, x7, none, none, none, none, none, none] (gS S (stage (signs n) (onL' es) k)) rfl ⟨x6, x7, rfl, rfl⟩
        refine ⟨_, [some (.int (n : Int)), some (.lst (es.map eE)), some (dEnds EL), some (.obj S.length), some (.obj (S.length + 1)), some (.int ((k + 1 : Nat) : Int)), y6, y7, none, none, none, none, none, none], _, N - (k + 1), (by rw [hb]; rw [decide_eq_true (show (k : Int) < ((stage (signs n) (onL' es) k).length : Nat) by omega)]), sq_nx (for_nx (srcV_ok ((cb1_ok rfl).trans (act_signs_ok n (by omega) _)) rfl) e2) rfl, by omega, y6, y7, k + 1, rfl, by omega, rfl, ?_⟩
        rw [hst]
      · have hk2 : (stage (signs n) (onL' es) k).length = k := by omega
        have hN2 := stage_fin few (k := k) (by omega) (by omega)
        refine .inl ⟨by rw [hb, decide_eq_false (show ¬ (k : Int) < ((stage (signs n) (onL' es) k).length : Nat) by omega)], x6, x7, stage (signs n) (onL' es) k, by rw [hk2], rfl, hN2, fun p hp s hs q hq => FG.stage_full (by omega) hp hs hq⟩)
  -- the scope's end
  have hscope : sScope (sSeq (sAsg (eTup (aCons (eCB F_ends_of (aCons (eVar 1) aNil)) (aCons (eLst BX (aCons (eC (.int 0)) aNil)) (aCons (eDisp [((eC (.int 0)), (eC (.int 0)))]) (aCons (eC (.int 0)) aNil))))) (gT [(gN 2), (gN 3), (gN 4), (gN 5)])) (sSeq (sWhile (bVal (e2 opLt (eVar 5) (eCB (biLen) (aCons (eVar 3) aNil)))) (sSeq (sFor (srcV (eCB F_act_signs (aCons (eVar 0) aNil))) (gN 6) ngB) (sSeq (sAug 5 (Hx.opI (fun _ _ => true) fun a b => .int (a + b)) (eC (.int 1))) sNil))) sNil))
      [some (.int (n : Int)), some (.lst (es.map eE)), none, none, none, none, none, none, none, none, none, none, none, none] S =
      .nx (cutE S.length (gS S L) [some (.int (n : Int)), some (.lst (es.map eE)), some (dEnds EL), some (.obj S.length), some (.obj (S.length + 1)), some (.int ((L.length : Nat) : Int)), x6, x7, none, none, none, none, none, none]) S := by
    refine scope_nx (T := [D.lst (L.map .int), D.dK (kvI L)]) ?_
    refine sq_nx (env' := [some (.int (n : Int)), some (.lst (es.map eE)), some (dEnds EL), some (.obj S.length), some (.obj (S.length + 1)), some (.int ((0 : Nat) : Int)), none, none, none, none, none, none, none, none]) (S' := gS S [0]) ?_ ?_
    · have h1 : (eCB F_ends_of (aCons (eVar 1) aNil)) [some (.int (n : Int)), some (.lst (es.map eE)), none, none, none, none, none, none, none, none, none, none, none, none] S = .ok (dEnds EL) S := (cb1_ok rfl).trans run
      have h2 : (eLst BX (aCons (eC (.int 0)) aNil)) [some (.int (n : Int)), some (.lst (es.map eE)), none, none, none, none, none, none, none, none, none, none, none, none] S = .ok (.obj S.length) (S ++ [.lst [.int 0]]) := lst1_ok rfl
      have h3 : (eDisp [((eC (.int 0)), (eC (.int 0)))]) [some (.int (n : Int)), some (.lst (es.map eE)), none, none, none, none, none, none, none, none, none, none, none, none] (S ++ [.lst [.int 0]]) = .ok (.obj (S.length + 1)) (gS S [0]) := by
        have hk : ((S ++ [D.lst [.int 0]]) ++ [D.dK []])[(S ++ [D.lst [D.int 0]]).length]? = some (.dK []) := get_new _ _
        unfold eDisp
        simp only [pairsE, eC, R.bind_ok, pairsK, keyK, List.length_cons, List.length_nil]
        rw [if_pos ⟨by decide, hk⟩, set_new, List.append_assoc, List.length_append]
        rfl
      simp only [sAsg, eTup, aCons, aNil, h1, h2, h3, R.bind_ok, eC, List.length_cons, List.length_nil]
      rw [if_pos (by decide : (0 + 1 + 1 + 1 + 1 : Nat) ≤ sizeLine)]
      rfl
    · exact sq_nx e1 rfl
  have hcut : cutE S.length (gS S L) [some (.int (n : Int)), some (.lst (es.map eE)), some (dEnds EL), some (.obj S.length), some (.obj (S.length + 1)), some (.int ((L.length : Nat) : Int)), x6, x7, none, none, none, none, none, none] = [some (.int (n : Int)), (some (D.lst (es.map eE))).bind (frz S.length (gS S L)), some (dEnds EL), some (.lst (L.map .int)), some (.dK (kvI L)), some (.int ((L.length : Nat) : Int)), x6.bind (frz S.length (gS S L)), x7.bind (frz S.length (gS S L)), none, none, none, none, none, none] := by
    have f1 : frz S.length (gS S L) (dEnds EL) = some (dEnds EL) := frz_pure (dEnds_pure EL)
    have f2 : frz S.length (gS S L) (.obj S.length) = some (.lst (L.map .int)) := frz_lst (gS_0 S L) (Nat.le_refl _) (pureL_ints _)
    have f3 : frz S.length (gS S L) (.obj (S.length + 1)) = some (.dK (kvI L)) := by
      unfold frz
      show deep S.length (gS S L) 3 (S.length + 1) = _
      unfold deep
      rw [if_neg (by omega), gS_1]
      exact D.sub_pure _ _ (kvI_pure L)
    have f4 : ∀ i : Int, frz S.length (gS S L) (.int i) = some (.int i) := fun i => rfl
    unfold cutE
    simp only [List.map_cons, List.map_nil, Option.bind_some, Option.bind_none, f1, f2, f3, f4]
  rw [hcut] at hscope
  generalize (some (D.lst (es.map eE))).bind (frz S.length (gS S L)) = z1 at hscope
  generalize x6.bind (frz S.length (gS S L)) = z6 at hscope
  generalize x7.bind (frz S.length (gS S L)) = z7 at hscope
  obtain ⟨env2, S2, e2, y6, y9, y10, y11, y12, y13, T, rfl, rfl⟩ := forL_inv (enc := D.int) (g := gN 9) (u := (sSeq (sSet 10 (eLst BX aNil))
    (sSeq (sFor (srcR2 (eC (.int 1)) (e2 (opAdd FZ) (eVar 0) (eC (.int 1)))) (gN 11) nrB)
    (sSeq (sExpr (eMt ckL mtAppend (eVar 8) (aCons (eCB (biTuple) (aCons (eVar 10) aNil)) aNil)))
    sNil)))) L (fun pre env S2 => ∃ y6 y9 y10 y11 y12 y13 T, env = [some (.int (n : Int)), z1, some (dEnds EL), some (.lst (L.map .int)), some (.dK (kvI L)), some (.int ((L.length : Nat) : Int)), y6, z7, some (.obj S.length), y9, y10, y11, y12, y13] ∧ S2 = S ++ .lst (((gr n (onL' es) L).map dR).take pre.length) :: T) (fun pre p post env S2 hLp hR => by
      obtain ⟨y6, y9, y10, y11, y12, y13, T, rfl, rfl⟩ := hR
      have hpL : p ∈ L := by rw [hLp]; simp
      have hll : L.length ≤ N := by rw [← eL]; exact few N
      have hpl : pre.length < L.length := by rw [hLp]; simp
      generalize hfo : ((gr n (onL' es) L).map dR).take pre.length = fo
      have hfl : fo.length = pre.length := by
        rw [← hfo, List.length_take, List.length_map, FG.gr_length]
        omega
      obtain ⟨env3, S3, e3, u11, u12, u13, rfl, rfl⟩ := forL_inv (enc := fun a : Nat => D.int (1 + (a : Int))) (g := gN 11) (u := nrB) (List.range n) (fun pre2 env S3 => ∃ u11 u12 u13, env = [some (.int (n : Int)), z1, some (dEnds EL), some (.lst (L.map .int)), some (.dK (kvI L)), some (.int ((L.length : Nat) : Int)), y6, z7, some (.obj S.length), some (.int p), some (.obj (S ++ .lst fo :: T).length), u11, u12, u13] ∧ S3 = (S ++ .lst fo :: T) ++ [.lst (pre2.map fun a : Nat => dB (ix L (onL' es p ((a : Int) + 1)), ix L (onL' es p (-((a : Int) + 1)))))])
        (fun pre2 a post2 env S3 hr hR => by
          obtain ⟨u11, u12, u13, rfl, rfl⟩ := hR
          have ha : a < n := by
            have : a ∈ List.range n := by rw [hr]; simp
            exact List.mem_range.mp this
          have hpl2 : pre2.length < n := by
            have := congrArg List.length hr
            simp at this
            omega
          refine ⟨[some (.int (n : Int)), z1, some (dEnds EL), some (.lst (L.map .int)), some (.dK (kvI L)), some (.int ((L.length : Nat) : Int)), y6, z7, some (.obj S.length), some (.int p), some (.obj (S ++ .lst fo :: T).length), some (.int (1 + (a : Int))), u12, u13], _, _, rfl, .inl (nrB_ok hE rd f n L hF _ _ _ _ _ _ _ _ _ p hpL a ha _ _ _ (get_new _ _) (Nat.lt_of_lt_of_le (by rw [List.length_map]; omega : _ < 200000) line_big)), _, _, _, rfl, ?_⟩
          rw [set_new, List.map_append]
          rfl) (List.range n) [] [some (.int (n : Int)), z1, some (dEnds EL), some (.lst (L.map .int)), some (.dK (kvI L)), some (.int ((L.length : Nat) : Int)), y6, z7, some (.obj S.length), some (.int p), some (.obj (S ++ .lst fo :: T).length), y11, y12, y13] ((S ++ .lst fo :: T) ++ [.lst []]) rfl ⟨y11, y12, y13, rfl, rfl⟩
      have hrow : ((List.range n).map fun a : Nat => dB (ix L (onL' es p ((a : Int) + 1)), ix L (onL' es p (-((a : Int) + 1))))) = ((List.range n).map fun a : Nat => (ix L (onL' es p ((a : Int) + 1)), ix L (onL' es p (-((a : Int) + 1))))).map dB := by rw [List.map_map]; rfl
      have hat : ((gr n (onL' es) L).map dR)[pre.length]? = some (dR ((List.range n).map fun a : Nat => (ix L (onL' es p ((a : Int) + 1)), ix L (onL' es p (-((a : Int) + 1)))))) := by
        unfold FG.gr
        rw [List.getElem?_map, List.getElem?_map, hLp, List.getElem?_append_right (Nat.le_refl _), Nat.sub_self]
        rfl
      have htk : ((gr n (onL' es) L).map dR).take (pre ++ [p]).length = fo ++ [D.tup ((List.range n).map fun a : Nat => dB (ix L (onL' es p ((a : Int) + 1)), ix L (onL' es p (-((a : Int) + 1)))))] := by
        rw [List.length_append, List.length_singleton, List.take_succ, hat, hfo, hrow]
        rfl
      generalize hrw : ((List.range n).map fun a : Nat => dB (ix L (onL' es p ((a : Int) + 1)), ix L (onL' es p (-((a : Int) + 1))))) = row at e3 htk
      refine ⟨[some (.int (n : Int)), z1, some (dEnds EL), some (.lst (L.map .int)), some (.dK (kvI L)), some (.int ((L.length : Nat) : Int)), y6, z7, some (.obj S.length), some (.int p), y10, y11, y12, y13], [some (.int (n : Int)), z1, some (dEnds EL), some (.lst (L.map .int)), some (.dK (kvI L)), some (.int ((L.length : Nat) : Int)), y6, z7, some (.obj S.length), some (.int p), some (.obj (S ++ .lst fo :: T).length), u11, u12, u13],
        S ++ .lst (((gr n (onL' es) L).map dR).take (pre ++ [p]).length) :: (T ++ [.lst row]), rfl, .inl ?_, _, _, _, _, _, _, _, rfl, rfl⟩
      refine sq_nx (env' := [some (.int (n : Int)), z1, some (dEnds EL), some (.lst (L.map .int)), some (.dK (kvI L)), some (.int ((L.length : Nat) : Int)), y6, z7, some (.obj S.length), some (.int p), some (.obj (S ++ .lst fo :: T).length), y11, y12, y13]) (S' := (S ++ .lst fo :: T) ++ [.lst []]) rfl ?_
      refine sq_nx (for_nx (srcR2_ok rfl rfl (inR_of _ (by omega)) (inR_of _ (by omega)) (by omega)) e3) ?_
      refine sq_nx ?_ rfl
      have hg1 : ((S ++ .lst fo :: T) ++ [.lst row])[S.length]? = some (.lst fo) := get_pre (by rw [List.getElem?_append_right (Nat.le_refl _), Nat.sub_self]; rfl)
      have hg2 := get_new (S ++ .lst fo :: T) (.lst row)
      have hlt : fo.length < sizeLine := Nat.lt_of_lt_of_le (by omega : fo.length < 200000) line_big
      generalize hST : ((S ++ .lst fo :: T) ++ [.lst row]) = ST at hg1 hg2
      have htup : (eCB biTuple (aCons (eVar 10) aNil)) [some (.int (n : Int)), z1, some (dEnds EL), some (.lst (L.map .int)), some (.dK (kvI L)), some (.int ((L.length : Nat) : Int)), y6, z7, some (.obj S.length), some (.int p), some (.obj (S ++ .lst fo :: T).length), u11, u12, u13] ST = .ok (.tup row) ST := by
        refine (cb1_ok (a := .obj (S ++ .lst fo :: T).length) (S1 := ST) rfl).trans ?_
        simp only [biTuple, seq_obj hg2]
      have hv8 : eVar 8 [some (.int (n : Int)), z1, some (dEnds EL), some (.lst (L.map .int)), some (.dK (kvI L)), some (.int ((L.length : Nat) : Int)), y6, z7, some (.obj S.length), some (.int p), some (.obj (S ++ .lst fo :: T).length), u11, u12, u13] ST = .ok (.obj S.length) ST := rfl
      have happ := app_st hv8 hg1 htup hg1 hlt
      rw [happ, ← hST]
      refine congrArg (SR.nx _) ?_
      rw [List.append_assoc, List.cons_append, List.set_append_right _ _ (Nat.le_refl _), Nat.sub_self, htk]
      rfl) L [] [some (.int (n : Int)), z1, some (dEnds EL), some (.lst (L.map .int)), some (.dK (kvI L)), some (.int ((L.length : Nat) : Int)), z6, z7, some (.obj S.length), none, none, none, none, none] (S ++ [.lst []]) rfl ⟨z6, none, none, none, none, none, [], rfl, rfl⟩
  refine ⟨.lst (((gr n (onL' es) L).map dR).take L.length) :: T, ?_⟩
  rw [eL]
  refine sq_nx hscope ?_
  refine sq_nx (env' := [some (.int (n : Int)), z1, some (dEnds EL), some (.lst (L.map .int)), some (.dK (kvI L)), some (.int ((L.length : Nat) : Int)), z6, z7, some (.obj S.length), none, none, none, none, none]) (S' := S ++ [.lst []]) rfl ?_
  refine sq_nx (for_nx (srcV_ok rfl rfl) e2) ?_
  refine sq_rt (ret_ok ((cb1_ok rfl).trans ?_))
  have hg : (S ++ .lst (((gr n (onL' es) L).map dR).take L.length) :: T)[S.length]? = some (.lst ((gr n (onL' es) L).map dR)) := by
    rw [List.getElem?_append_right (Nat.le_refl _), Nat.sub_self, List.take_of_length_le (by rw [List.length_map, FG.gr_length]; exact Nat.le_refl _)]
    rfl
  simp only [biTuple, seq_obj hg]
end K48
set_option Elab.async false
set_option linter.all false
set_option maxRecDepth 100000
set_option maxHeartbeats 1000000
namespace K48
open PySem PySem.Spec PySem.W PyProof.Rows L2 Hx
open FG (E3 eS Cp St Fd Rd mrg msr edge rose places signs stage ext gr ix rdG stepG Let)
theorem rose_pl {n : Nat} {ws : List (List Int)} {N : Nat} (hN : places 1 ws = (N : Int)) (hw : ∀ w ∈ ws, Let n w) : PlOk N n (rose 1 ws) := ⟨FG.rose_act n ws 1 hw, fun e he => by
  have := FG.rose_in ws 1 (by decide) e he
  rw [hN] at this
  exact this⟩
theorem places_pos (ws : List (List Int)) : 1 ≤ places 1 ws := FG.places_le ws 1
/-- the graph of some words -/
def gOf (n N : Nat) (fin : List E3) : List FG.Row := gr n (onL' fin) (stage (signs n) (onL' fin) N)
theorem folded_graph_ok (n : Nat) (hn : n ≤ 100) (ws : List (List Int)) (hw : ∀ w ∈ ws, Let n w) (N : Nat) (hN : places 1 ws = (N : Int)) (hN3 : N ≤ 300) (hl : lenAll ws ≤ 10000) (d : D) (hd : stL d = some (ws.map dW)) (S : Store) :
    ∃ fs fin, Run (rose 1 ws) fs fin ∧ F_folded_graph [.int (n : Int), d] S = .ok (.tup [dG (gOf n N fin), .tup (fs.map dW)]) S := by
  have hp := rose_pl hN hw
  have h0 : 0 < N := by have := places_pos ws; omega
  obtain ⟨fs, fin, r, hlen, run⟩ := folded_edges_ok (rose 1 ws) N n hp (by rw [rose_len]; omega) (by omega) S
  obtain ⟨q1, q2, q3, q4, q5⟩ := r.qt hp
  rw [rose_len] at hlen
  have hng := numbered_ok fin N n q3 h0 (by omega) hn (by omega) q2 S
  refine ⟨fs, fin, r, fn_pure rfl ?_ (pure_tup fun x hx => ?_)⟩
  · unfold u_folded_graph
    have hre := rose_edges_ok d ws hd (by omega) S (by omega)
    have h1 : (eCB F_folded_edges (aCons (e2 opIx (eCB F_rose_edges (aCons (eVar 1) aNil)) (eC (.int 0))) aNil)) [some (.int (n : Int)), some d, none, none] S = .ok (.tup [.lst (fin.map eE), .tup (fs.map dW)]) S := by
      refine (cb1_ok (a := .lst ((rose 1 ws).map eE)) (S1 := S) ?_).trans run
      exact (e2_ok ((cb1_ok rfl).trans hre) rfl).trans (opIx_ok (j := 0) rfl rfl)
    refine sq_nx (env' := [some (.int (n : Int)), some d, some (.lst (fin.map eE)), some (.tup (fs.map dW))]) (S' := S) ?_ ?_
    · show sAsg _ _ [some (.int (n : Int)), some d, none, none] S = _
      simp only [sAsg, h1, bindS_ok]
      rfl
    · exact sq_rt (ret_ok (tup2_ok ((cb2_ok rfl rfl).trans hng) rfl))
  · simp only [List.mem_cons, List.not_mem_nil, or_false] at hx
    rcases hx with rfl | rfl
    · exact dG_pure _
    · exact pure_tup (pure_map fun a _ => dW_pure a)
theorem folded_graph_great (n : Nat) (ws : List (List Int)) (h : 300 < places 1 ws) (hl : lenAll ws ≤ 10000) (d : D) (hd : stL d = some (ws.map dW)) (S : Store) : F_folded_graph [.int (n : Int), d] S = .exc (.int 2) S := by
  have hre := rose_edges_great d ws hd (by omega) S h
  have h1 : (eCB F_folded_edges (aCons (e2 opIx (eCB F_rose_edges (aCons (eVar 1) aNil)) (eC (.int 0))) aNil)) [some (.int (n : Int)), some d, none, none] S = .exc (.int 2) S := by
    have : (eCB F_rose_edges (aCons (eVar 1) aNil)) [some (.int (n : Int)), some d, none, none] S = .exc (.int 2) S := (cb1_ok rfl).trans hre
    simp only [eCB, aCons, aNil, Hx.e2] at this ⊢
    rw [this]
    rfl
  have h2 : u_folded_graph ([D.int (n : Int), d].map some ++ List.replicate (4 - 2) none) S = .exc (.int 2) S := by
    show sSeq (sAsg _ _) _ [some (.int (n : Int)), some d, none, none] S = _
    simp only [sSeq, sAsg, h1]
    rfl
  unfold F_folded_graph cutF defF
  rw [if_pos (show [D.int (n : Int), d].length = 2 from rfl), h2]
  unfold cutR
  dsimp only
  have := okS_self S.length S []
  rw [List.append_nil] at this
  rw [if_pos this]
  have e : frz S.length S (.int 2) = some (.int 2) := rfl
  rw [e]
  dsimp only
  rw [List.take_length]
/-! ### reading -/
def GOk (n : Nat) (G : List FG.Row) : Prop := ∀ row ∈ G, row.length = n ∧ ∀ b ∈ row, (∀ q, b.1 = some q → q < G.length) ∧ ∀ q, b.2 = some q → q < G.length
theorem gr_ok {n : Nat} {on : Int → Int → Option Int} {L : List Int} (hF : Full n on L) : GOk n (gr n on L) := fun row hr => by
  obtain ⟨p, hp, rfl⟩ := List.mem_map.mp hr
  refine ⟨by rw [List.length_map, List.length_range], fun b hb => ?_⟩
  obtain ⟨a, ha, rfl⟩ := List.mem_map.mp hb
  rw [List.mem_range] at ha
  have key : ∀ s, s ∈ signs n → ∀ q, ix L (on p s) = some q → q < (gr n on L).length := fun s hs q hq => by
    unfold FG.ix at hq
    cases e : on p s with
    | none => rw [e] at hq; cases hq
    | some x =>
      rw [e] at hq
      cases hq
      rw [FG.gr_length]
      exact List.idxOf_lt_length_of_mem (hF p hp s hs x e)
  exact ⟨key _ (FG.mem_signs.mpr ⟨by omega, by omega⟩), key _ (FG.mem_signs.mpr ⟨by omega, by omega⟩)⟩
theorem stepG_lt {n : Nat} {G : List FG.Row} (h : GOk n G) {p q : Nat} {s : Int} (e : stepG G p s = some q) : q < G.length := by
  unfold FG.stepG at e
  cases h1 : G[p]? with
  | none => rw [h1] at e; cases e
  | some row =>
    rw [h1, Option.bind_some] at e
    cases h2 : row[s.natAbs - 1]? with
    | none => rw [h2] at e; cases e
    | some b =>
      rw [h2, Option.bind_some] at e
      have hb := (h row (List.mem_of_getElem? h1)).2 b (List.mem_of_getElem? h2)
      by_cases z : 0 < s
      · rw [if_pos z] at e; exact hb.1 q e
      · rw [if_neg z] at e; exact hb.2 q e
theorem at_row {n : Nat} {G : List FG.Row} (h : GOk n G) {p : Nat} (hp : p < G.length) {s : Int} (hs : s ≠ 0 ∧ s.natAbs ≤ n) : ∃ row b, G[p]? = some row ∧ row[s.natAbs - 1]? = some b ∧ L2.atI (G.map dR) (p : Int) = some (dR row) ∧ L2.atI (row.map dB) ((if s < 0 then -s else s) - 1) = some (dB b) ∧ stepG G p s = if 0 < s then b.1 else b.2 := by
  have h1 : G[p]? = some G[p] := List.getElem?_eq_getElem hp
  have hr := (h G[p] (List.getElem_mem hp)).1
  have hlt : s.natAbs - 1 < (G[p]).length := by omega
  have h2 : (G[p])[s.natAbs - 1]? = some (G[p])[s.natAbs - 1] := List.getElem?_eq_getElem hlt
  have e : ((if s < 0 then -s else s) - 1) = ((s.natAbs - 1 : Nat) : Int) := by
    by_cases z : s < 0
    · rw [if_pos z]; omega
    · rw [if_neg z]; omega
  refine ⟨_, _, h1, h2, atI_nat (by rw [List.getElem?_map, h1]; rfl), ?_, ?_⟩
  · rw [e]
    exact atI_nat (by rw [List.getElem?_map, h2]; rfl)
  · unfold FG.stepG
    rw [h1, Option.bind_some, h2, Option.bind_some]
theorem read_on_G {n : Nat} {G : List FG.Row} (h : GOk n G) {p : Nat} (hp : p < G.length) {s : Int} (hs : s ≠ 0 ∧ s.natAbs ≤ n) (S : Store) : F_read_on [dG G, .int (p : Int), .int s] S = .ok (oN (stepG G p s)) S := by
  obtain ⟨row, b, _, _, h3, h4, h5⟩ := at_row h hp hs
  rw [read_on_ok (G.map dR) (row.map dB) p s (oN b.1) (oN b.2) S h3 h4 (oN_pure _) (oN_pure _), h5]
  by_cases z : 0 < s
  · rw [if_pos z, if_pos z]
  · rw [if_neg z, if_neg z]
theorem isN_oN (o : Option Nat) (S : Store) : opIsN (oN o) .non S = .ok (.bl o.isNone) S := by
  cases o with
  | none => exact isN_non S
  | some k => exact isN_int _ S
theorem notN_oN (o : Option Nat) (S : Store) : opNotN (oN o) .non S = .ok (.bl o.isSome) S := by
  cases o with
  | none => exact notN_non S
  | some k => exact notN_int _ S
def rrB : SS := (sSeq (sSet 1 (eCB F_read_on (aCons (eVar 0) (aCons (eVar 1) (aCons (eVar 3) aNil)))))
    (sSeq (sIf (bVal (e2 opIsN (eVar 1) (eC .non))) (sSeq (sRet (eC .non))
    sNil) sNil)
    sNil))
theorem rr_loop {n : Nat} {G : List FG.Row} (h : GOk n G) (x2 : Option D) (S : Store) : ∀ (w : List Int) (p : Nat) (x3 : Option D), p < G.length → Let n w → match rdG G p w with
    | some q => ∃ x3', forL (gN 3) rrB (w.map .int) [some (dG G), some (.int (p : Int)), x2, x3] S = .nx [some (dG G), some (.int (q : Int)), x2, x3'] S
    | none => forL (gN 3) rrB (w.map .int) [some (dG G), some (.int (p : Int)), x2, x3] S = .rt .non S
  | [], p, x3, _, _ => ⟨x3, rfl⟩
  | s :: w, p, x3, hp, hl => by
    have hs := hl s List.mem_cons_self
    have hon := read_on_G h hp hs S
    have h1 : (sSet 1 (eCB F_read_on (aCons (eVar 0) (aCons (eVar 1) (aCons (eVar 3) aNil))))) [some (dG G), some (.int (p : Int)), x2, some (.int s)] S = .nx [some (dG G), some (oN (stepG G p s)), x2, some (.int s)] S := set_ok ((cb3_ok rfl rfl rfl).trans hon)
    have h2 : (bVal (e2 opIsN (eVar 1) (eC .non))) [some (dG G), some (oN (stepG G p s)), x2, some (.int s)] S = .ok (stepG G p s).isNone S := bval_ok ((e2_ok rfl rfl).trans (isN_oN _ S))
    have hg : gN 3 (.int s) [some (dG G), some (.int (p : Int)), x2, x3] = some [some (dG G), some (.int (p : Int)), x2, some (.int s)] := rfl
    rw [List.map_cons]
    unfold FG.rdG forL
    rw [hg]
    dsimp only
    cases e : stepG G p s with
    | none =>
      rw [e] at h1 h2
      have hB : rrB [some (dG G), some (.int (p : Int)), x2, some (.int s)] S = .rt .non S := by
        unfold rrB
        refine sq_nx h1 (sq_rt ?_)
        exact (if_yes h2).trans rfl
      rw [hB]
      rfl
    | some q =>
      rw [e] at h1 h2
      have hB : rrB [some (dG G), some (.int (p : Int)), x2, some (.int s)] S = .nx [some (dG G), some (.int (q : Int)), x2, some (.int s)] S := by
        unfold rrB
        refine sq_nx h1 (sq_nx ((if_no h2).trans rfl) rfl)
      rw [hB]
      exact rr_loop h x2 S w q (some (.int s)) (stepG_lt h e) fun x hx => hl x (List.mem_cons_of_mem _ hx)
theorem read_row_ok {n : Nat} {G : List FG.Row} (h : GOk n G) {p : Nat} (hp : p < G.length) {w : List Int} (hw : Let n w) (S : Store) : F_read_row [dG G, .int (p : Int), dW w] S = .ok (oN (rdG G p w)) S := by
  refine fn_pure rfl ?_ (oN_pure _)
  have := rr_loop h (some (dW w)) S w p none hp hw
  unfold u_read_row
  show sSeq _ _ [some (dG G), some (.int (p : Int)), some (dW w), none] S = _
  cases e : rdG G p w with
  | none =>
    rw [e] at this
    refine sq_rt ?_
    unfold sFor
    rw [srcV_ok (f := eVar 2) (d := dW w) rfl rfl]
    exact this
  | some q =>
    rw [e] at this
    obtain ⟨x3', this⟩ := this
    exact sq_nx (for_nx (srcV_ok (f := eVar 2) (d := dW w) rfl rfl) this) rfl
theorem eq_oN (o : Option Nat) (S : Store) : opEq (oN o) (.int 0) S = .ok (.bl (decide (o = some 0))) S := by
  cases o with
  | none => rfl
  | some k =>
    show opEq (.int (k : Int)) (.int 0) S = _
    rw [eqI]
    congr 2
    rw [decide_eq_decide]
    constructor
    · intro e
      have : k = 0 := by omega
      rw [this]
    · intro e
      cases e
      rfl
theorem is_member_ok {n : Nat} {G : List FG.Row} (h : GOk n G) (h0 : 0 < G.length) {w : List Int} (hw : Let n w) (S : Store) : F_is_member [dG G, dW w] S = .ok (.bl (decide (rdG G 0 w = some 0))) S := by
  refine fn_pure rfl ?_ rfl
  exact sq_rt (ret_ok ((e2_ok ((cb3_ok rfl rfl rfl).trans (read_row_ok h (p := 0) h0 hw S)) rfl).trans (eq_oN _ S)))
theorem rdG_snoc (G : List FG.Row) (s : Int) : ∀ (w : List Int) (p : Nat), rdG G p (w ++ [s]) = (rdG G p w).bind fun q => stepG G q s
  | [], p => by
    show (stepG G p s).bind (fun q => some q) = stepG G p s
    cases stepG G p s <;> rfl
  | t :: w, p => by
    show (stepG G p t).bind (fun q => rdG G q (w ++ [s])) = ((stepG G p t).bind fun q => rdG G q w).bind _
    cases e : stepG G p t with
    | none => rfl
    | some q => exact rdG_snoc G s w q
theorem rdG_lt {n : Nat} {G : List FG.Row} (h : GOk n G) : ∀ (w : List Int) (p q : Nat), p < G.length → rdG G p w = some q → q < G.length
  | [], p, q, hp, e => by cases e; exact hp
  | s :: w, p, q, hp, e => by
    unfold FG.rdG at e
    cases h1 : stepG G p s with
    | none => rw [h1] at e; cases e
    | some r =>
      rw [h1] at e
      exact rdG_lt h w r q (stepG_lt h h1) e
theorem law_read_ok {n : Nat} {G : List FG.Row} (h : GOk n G) {p : Nat} (hp : p < G.length) {w : List Int} (hw : Let n w) (S : Store) : F__law_read [dG G, .int (p : Int), dW w] S = .ok (oN (rdG G p w)) S := by
  refine fn_pure rfl ?_ (oN_pure _)
  unfold u__law_read
  refine sq_for D.int w (fun pre env S' => ∃ x3, env = [some (dG G), some (oN (rdG G p pre)), some (dW w), x3] ∧ S' = S) (srcV_ok (f := eVar 2) (d := dW w) rfl rfl) ⟨none, rfl, rfl⟩ (fun pre s post env S' e hR => ?_) (fun env' S' hR => ?_)
  · obtain ⟨x3, rfl, rfl⟩ := hR
    have hs := hw s (by rw [e]; simp)
    have hb : (bVal (e2 opNotN (eVar 1) (eC .non))) [some (dG G), some (oN (rdG G p pre)), some (dW w), some (.int s)] S' = .ok (rdG G p pre).isSome S' := bval_ok ((e2_ok rfl rfl).trans (notN_oN _ S'))
    refine ⟨[some (dG G), some (oN (rdG G p pre)), some (dW w), some (.int s)], [some (dG G), some (oN (rdG G p (pre ++ [s]))), some (dW w), some (.int s)], S', rfl, ?_, some (.int s), rfl, rfl⟩
    rw [rdG_snoc]
    cases eq : rdG G p pre with
    | none =>
      rw [eq] at hb
      exact sq_nx ((if_no hb).trans rfl) rfl
    | some q =>
      rw [eq] at hb
      obtain ⟨row, b, _, _, h3, h4, h5⟩ := at_row h (rdG_lt h pre p q hp eq) hs
      refine sq_nx ((if_yes hb).trans (sq_nx (set_ok ?_) rfl)) rfl
      rw [Option.bind_some, h5]
      have i1 : (e2 opIx (eVar 0) (eVar 1)) [some (dG G), some (.int (q : Int)), some (dW w), some (.int s)] S' = .ok (dR row) S' := by
        refine (e2_ok rfl rfl).trans ?_
        unfold opIx
        simp only [seqL, h3]
      have i2 : (e2 (opSub) (eCB (biAbs) (aCons (eVar 3) aNil)) (eC (.int 1))) [some (dG G), some (.int (q : Int)), some (dW w), some (.int s)] S' = .ok (.int ((if s < 0 then -s else s) - 1)) S' := rfl
      have i3 : (e2 opIx (e2 opIx (eVar 0) (eVar 1)) (e2 (opSub) (eCB (biAbs) (aCons (eVar 3) aNil)) (eC (.int 1)))) [some (dG G), some (.int (q : Int)), some (dW w), some (.int s)] S' = .ok (dB b) S' := by
        refine (e2_ok i1 i2).trans ?_
        unfold opIx
        simp only [seqL, h4]
      have i4 : (eCB (biInt) (aCons (e2 opLt (eVar 3) (eC (.int 0))) aNil)) [some (dG G), some (.int (q : Int)), some (dW w), some (.int s)] S' = .ok (.int (if decide (s < 0) then 1 else 0)) S' := rfl
      refine (e2_ok i3 i4).trans ?_
      by_cases z : 0 < s
      · have z' : ¬ s < 0 := by omega
        rw [if_pos z]
        simp only [z', decide_false, Bool.false_eq_true, if_false]
        exact opIx_ok (j := 0) rfl rfl
      · have z' : s < 0 := by omega
        rw [if_neg z]
        simp only [z', decide_true, if_true]
        exact opIx_ok (j := 1) rfl rfl
  · obtain ⟨x3, rfl, rfl⟩ := hR
    rfl
end K48
set_option Elab.async false
set_option linter.all false
set_option maxRecDepth 100000
set_option maxHeartbeats 1000000
namespace K48
open PySem PySem.Spec PySem.W PyProof.Rows L2 Hx
open FG (tos)
/-! ### what can be shown -/
structure Sh (p : PyData) (d l : Nat) : Prop where
  sh : p.showable = true
  nd : p.hasDict = false
  dp : p.depth ≤ d
  ln : p.shown.length ≤ l
theorem int_shown : ((List.range 2001).all fun k => decide ((PyData.shown (.int (k : Int))).length ≤ 10)) = true := by decide +kernel
theorem Sh.none : Sh .none 0 4 := ⟨by simp [PyData.showable], by simp [PyData.hasDict], by simp [PyData.depth], by
  rw [PyData.shown]
  decide +kernel⟩
theorem Sh.bool (b : Bool) : Sh (.bool b) 0 5 := ⟨by simp [PyData.showable], by simp [PyData.hasDict], by simp [PyData.depth], by
  rw [PyData.shown]
  cases b <;> decide +kernel⟩
theorem Sh.nat (k : Nat) (h : k ≤ 2000) : Sh (.int (k : Int)) 0 10 := ⟨by
  rw [PyData.showable, decide_eq_true_eq, Int.natAbs_natCast]
  by_cases z : k = 0
  · subst z; decide
  · rw [Nat.log2_lt z]
    exact Nat.lt_of_lt_of_le (Nat.lt_of_le_of_lt h (by decide : 2000 < 2 ^ 11)) (Nat.pow_le_pow_right (by decide) (by decide)), by simp [PyData.hasDict], by simp [PyData.depth], by
  have := List.all_eq_true.mp int_shown k (List.mem_range.mpr (by omega))
  exact of_decide_eq_true this⟩
theorem Sh.int (i : Int) (h0 : 0 ≤ i) (h : i ≤ 2000) : Sh (.int i) 0 10 := by
  have := Sh.nat i.toNat (by omega)
  rwa [Int.toNat_of_nonneg h0] at this
theorem sh_all {ps : List PyData} {d l : Nat} (h : ∀ p ∈ ps, Sh p d l) : PyData.showableAll ps = true ∧ PyData.hasDictAll ps = false ∧ PyData.depthAll ps ≤ d ∧ piled (PyData.shownAll ps) ≤ ps.length * (l + 2) ∧ (PyData.shownAll ps).length = ps.length := by
  induction ps with
  | nil => simp [PyData.showableAll, PyData.hasDictAll, PyData.depthAll, PyData.shownAll, piled]
  | cons p r ih =>
    obtain ⟨h1, h2, h3, h4, h5⟩ := ih fun q hq => h q (List.mem_cons_of_mem _ hq)
    have hp := h p List.mem_cons_self
    refine ⟨by simp only [PyData.showableAll, hp.sh, h1, Bool.and_self], by simp only [PyData.hasDictAll, hp.nd, h2, Bool.or_self], ?_, ?_, by simp only [PyData.shownAll, List.length_cons, h5]⟩
    · simp only [PyData.depthAll]
      have := hp.dp
      omega
    · simp only [PyData.shownAll, piled_cons, List.length_cons, Nat.add_mul]
      have := hp.ln
      omega
theorem Sh.tup {ps : List PyData} {d l : Nat} (h : ∀ p ∈ ps, Sh p d l) : Sh (.tuple ps) (d + 1) (ps.length * (l + 2) + 3) := by
  obtain ⟨h1, h2, h3, h4, h5⟩ := sh_all h
  refine ⟨by rw [PyData.showable, h1], by rw [PyData.hasDict, h2], by rw [PyData.depth]; omega, ?_⟩
  rw [PyData.shown]
  unfold tupleText
  rw [strLen_append, strLen_append]
  have e1 : ((("(" : String) : Str)).length = 1 := rfl
  have e2 : (((if (PyData.shownAll ps).length == 1 then ",)" else ")" : String) : Str)).length ≤ 2 := by split <;> decide
  rw [e1]
  by_cases z : PyData.shownAll ps = []
  · rw [z]
    have : (Str.join (", " : String) []).length = 0 := rfl
    rw [z] at e2
    omega
  · have := join_length_add _ z
    omega
theorem Sh.lst {ps : List PyData} {d l : Nat} (h : ∀ p ∈ ps, Sh p d l) : Sh (.list ps) (d + 1) (ps.length * (l + 2) + 3) := by
  obtain ⟨h1, h2, h3, h4, h5⟩ := sh_all h
  refine ⟨by rw [PyData.showable, h1], by rw [PyData.hasDict, h2], by rw [PyData.depth]; omega, ?_⟩
  rw [PyData.shown]
  cases z : PyData.shownAll ps with
  | nil =>
    rw [listText_nil]
    have : (("[]" : String) : Str).length = 2 := by decide +kernel
    rw [this]
    omega
  | cons t r =>
    rw [z, piled_cons] at h4
    have hh := textFrom_length_pos r 1 (("[" : Str) ++ (if (0 : Nat) > 0 then ", " else "" : String) ++ t) (Nat.succ_pos 0)
    have e : ((("[" : Str) ++ (if (0 : Nat) > 0 then ", " else "" : String) ++ t)).length = 1 + t.length := by
      rw [strLen_append, strLen_append]; rfl
    have hX : (listText (t :: r)).length = (textFrom 0 "[" (t :: r)).length + 1 := by
      show (textFrom 0 "[" (t :: r) ++ "]").length = _
      rw [strLen_append]; rfl
    have hY : (textFrom 0 "[" (t :: r)).length = (textFrom 1 (("[" : Str) ++ (if (0 : Nat) > 0 then ", " else "" : String) ++ t) r).length := rfl
    rw [hX, hY, hh, e]
    omega
theorem Sh.weak {p : PyData} {d l d' l' : Nat} (h : Sh p d l) (hd : d ≤ d') (hl : l ≤ l') : Sh p d' l' := ⟨h.sh, h.nd, Nat.le_trans h.dp hd, Nat.le_trans h.ln hl⟩
theorem shows_of {p : PyData} {d l : Nat} (h : Sh p d l) (hd : d ≤ 32) (hl : l ≤ sizeLine) : shows p = true := by
  unfold shows
  rw [h.sh, h.nd, decide_eq_true (Nat.le_trans h.dp hd), decide_eq_true (Nat.le_trans h.ln hl)]
  rfl
theorem repr_ok {x : D} {S : Store} {p : PyData} (h : toPy S x = some p) (hr : isRef x = true) (hs : shows p = true) : biRepr [x] S = .ok (.str p.shown) S := by
  unfold biRepr
  simp only [h, hr, hs, and_self, if_true]
theorem ne_str (a : Str) (S : Store) : opNe (.str a) (.str a) S = .ok (.bl false) S := by
  have : eqD S (.str a) (.str a) = some (decide (a = a)) := rfl
  unfold opNe
  rw [this]
  simp
/-- two things that show alike -/
theorem alike_no {f g : SE} {env : Ev} {S S1 S2 : Store} {x y : D} {p : PyData} (h1 : f env S = .ok x S1) (h2 : g env S1 = .ok y S2) (hx : toPy S1 x = some p) (hy : toPy S2 y = some p) (rx : isRef x = true) (ry : isRef y = true) (hs : shows p = true) :
    (bVal (e2 opNe (eCB (biRepr) (aCons f aNil)) (eCB (biRepr) (aCons g aNil)))) env S = .ok false S2 :=
  bval_ok ((e2_ok ((cb1_ok h1).trans (repr_ok hx rx hs)) ((cb1_ok h2).trans (repr_ok hy ry hs))).trans (ne_str _ _))
/-! graphs shown -/
def pyN : Option Nat → PyData
  | none => .none
  | some k => .int (k : Int)
def pyB (b : Option Nat × Option Nat) : PyData := .tuple [pyN b.1, pyN b.2]
def pyR (row : FG.Row) : PyData := .tuple (row.map pyB)
def pyGr (G : List FG.Row) : PyData := .tuple (G.map pyR)
theorem pyG_N (g : Nat → Option PyData) (o : Option Nat) : pyG g (oN o) = some (pyN o) := by
  cases o <;> simp [oN, pyG, pyN]
theorem pyG_B (g : Nat → Option PyData) (b : Option Nat × Option Nat) : pyG g (dB b) = some (pyB b) := by
  simp only [pyG, pyL, pyG_N, Option.map_some]
  rfl
theorem pyL_map {α : Type} (g : Nat → Option PyData) (f : α → D) (k : α → PyData) (h : ∀ a, pyG g (f a) = some (k a)) : ∀ l : List α, pyL g (l.map f) = some (l.map k)
  | [] => by simp [pyL]
  | a :: l => by simp only [List.map_cons, pyL, h a, pyL_map g f k h l]
theorem pyG_R (g : Nat → Option PyData) (row : FG.Row) : pyG g (dR row) = some (pyR row) := by
  simp only [pyG, pyL_map g dB pyB (pyG_B g), Option.map_some]
  rfl
theorem pyG_G (g : Nat → Option PyData) (G : List FG.Row) : pyG g (dG G) = some (pyGr G) := by
  simp only [pyG, pyL_map g dR pyR (pyG_R g), Option.map_some]
  rfl
theorem toPy_G (S : Store) (G : List FG.Row) : toPy S (dG G) = some (pyGr G) := pyG_G _ G
theorem sh_N {o : Option Nat} (h : ∀ k, o = some k → k ≤ 2000) : Sh (pyN o) 0 10 := by
  cases o with
  | none => exact Sh.none.weak (Nat.le_refl _) (by decide)
  | some k => exact Sh.nat k (h k rfl)
theorem sh_G {n : Nat} {G : List FG.Row} (h : GOk n G) (hn : n ≤ 100) (hG : G.length ≤ 1000) : Sh (pyGr G) 3 (G.length * 3005 + 3) := by
  show Sh (.tuple (G.map pyR)) 3 _
  refine (Sh.tup (d := 2) (l := 3003) fun p hp => ?_).weak (Nat.le_refl _) (by rw [List.length_map]; omega)
  obtain ⟨row, hr, rfl⟩ := List.mem_map.mp hp
  obtain ⟨h1, h2⟩ := h row hr
  have hb : ∀ q ∈ row.map pyB, Sh q 1 27 := fun q hq => by
    obtain ⟨b, hb, rfl⟩ := List.mem_map.mp hq
    obtain ⟨b1, b2⟩ := h2 b hb
    refine (Sh.tup (d := 0) (l := 10) (ps := [pyN b.1, pyN b.2]) fun q hq => ?_)
    simp only [List.mem_cons, List.not_mem_nil, or_false] at hq
    rcases hq with rfl | rfl
    · exact sh_N fun k hk => by have := b1 k hk; omega
    · exact sh_N fun k hk => by have := b2 k hk; omega
  refine (Sh.tup hb).weak (Nat.le_refl _) ?_
  rw [List.length_map, h1]
  omega
theorem shows_G {n : Nat} {G : List FG.Row} (h : GOk n G) (hn : n ≤ 100) (hG : G.length ≤ 1000) : shows (pyGr G) = true :=
  shows_of (sh_G h hn hG) (by decide) (Nat.le_trans (by omega : G.length * 3005 + 3 ≤ 3100000) (by decide))
/-! ### rank, index -/
theorem enum_map {α : Type} (enc : α → D) : ∀ (as : List α) (k : Nat), enumD k (as.map enc) = (as.zipIdx k).map fun p => .tup [.int (p.2 : Int), enc p.1]
  | [], _ => rfl
  | a :: as, k => by
    rw [List.map_cons, enumD, List.zipIdx_cons, List.map_cons, enum_map enc as (k + 1)]
def toldRow (r : FG.Row × Nat) : List D := (r.1.zipIdx.filter fun x => x.1.1.isSome).map fun x => D.tup [.int (r.2 : Int), .int ((x.2 : Int) + 1), oN x.1.1]
def toldE (G : List FG.Row) : List D := G.zipIdx.flatMap toldRow
theorem toldRow_len (r : FG.Row × Nat) : (toldRow r).length = r.1.countP fun b => b.1.isSome := by
  unfold toldRow
  rw [List.length_map, ← List.countP_eq_length_filter]
  have : ∀ (l : FG.Row) (k : Nat), (l.zipIdx k).countP (fun x => x.1.1.isSome) = l.countP fun b => b.1.isSome := by
    intro l
    induction l with
    | nil => intro k; rfl
    | cons a l ih => intro k; rw [List.zipIdx_cons, List.countP_cons, List.countP_cons, ih]
  exact this _ _
theorem toldE_len (G : List FG.Row) : (toldE G).length = tos G := by
  unfold toldE FG.tos
  rw [List.length_flatMap]
  have : ∀ (l : List FG.Row) (k : Nat), ((l.zipIdx k).map fun a => (toldRow a).length) = l.map fun row => row.countP fun b => b.1.isSome := by
    intro l
    induction l with
    | nil => intro k; rfl
    | cons a l ih => intro k; rw [List.zipIdx_cons, List.map_cons, List.map_cons, ih, toldRow_len]
  rw [this]
theorem toldE_few {n : Nat} {G : List FG.Row} (h : GOk n G) : (toldE G).length ≤ n * G.length := by
  rw [toldE_len]
  exact (FG.sum_full _ n G fun row hr => by
    have := List.countP_le_length (p := fun b : Option Nat × Option Nat => b.1.isSome) (l := row)
    rw [(h row hr).1] at this
    exact this).1
theorem edges_told_ok {n : Nat} {G : List FG.Row} (h : GOk n G) (hn : n ≤ 100) (hG : G.length ≤ 1000) (S : Store) : F_edges_told [dG G] S = .ok (.lst (toldE G)) S := by
  have hp : ∀ x ∈ toldE G, x.pure = true := fun x hx => by
    unfold toldE at hx
    obtain ⟨r, _, hx⟩ := List.mem_flatMap.mp hx
    unfold toldRow at hx
    obtain ⟨y, _, rfl⟩ := List.mem_map.mp hx
    refine pure_tup fun z hz => ?_
    simp only [List.mem_cons, List.not_mem_nil, or_false] at hz
    rcases hz with rfl | rfl | rfl
    · rfl
    · rfl
    · exact oN_pure _
  refine fn_cut (d := .obj S.length) (T := [.lst (toldE G)]) rfl ?_ (frz_lst (get_new S _) (Nat.le_refl _) (pureL_of hp))
  unfold u_edges_told
  refine sq_nx (env' := [some (dG G), some (.obj S.length), none, none, none, none]) (S' := S ++ [.lst []]) rfl ?_
  refine sq_for (fun p : FG.Row × Nat => D.tup [.int (p.2 : Int), dR p.1]) G.zipIdx (fun pre env S' => ∃ x2 x3 x4 x5, env = [some (dG G), some (.obj S.length), x2, x3, x4, x5] ∧ S' = S ++ [.lst (pre.flatMap toldRow)])
    (by rw [srcE_ok (f := eVar 0) (d := dG G) (ds := G.map dR) rfl rfl, enum_map]; rfl) ⟨none, none, none, none, rfl, rfl⟩ (fun pre r post env S' e hR => ?_) (fun env' S' hR => ?_)
  · obtain ⟨x2, x3, x4, x5, rfl, rfl⟩ := hR
    have hrG : r.1 ∈ G := by
      have : r ∈ G.zipIdx := by rw [e]; simp
      exact List.fst_mem_of_mem_zipIdx this
    have hrow := (h r.1 hrG).1
    have hlen : (pre.flatMap toldRow).length + (toldRow r).length ≤ 100000 := by
      have h1 := toldE_few h
      have h2 : (toldE G).length = (pre.flatMap toldRow).length + ((toldRow r).length + (post.flatMap toldRow).length) := by
        unfold toldE
        rw [e, List.flatMap_append, List.flatMap_cons, List.length_append, List.length_append]
      have h3 : n * G.length ≤ 100 * 1000 := Nat.mul_le_mul hn hG
      omega
    have hg := get_new S (D.lst (pre.flatMap toldRow))
    have hlc : (eLc FZ (srcE (eVar 3)) (gT [(gN 4), (gN 5)]) [4, 5] (bVal (e2 opNotN (e2 opIx (eVar 5) (eC (.int 0))) (eC .non))) (eTup (aCons (eVar 2) (aCons (e2 (opAdd FZ) (eVar 4) (eC (.int 1))) (aCons (e2 opIx (eVar 5) (eC (.int 0))) aNil))))) [some (dG G), some (.obj S.length), some (.int (r.2 : Int)), some (dR r.1), x4, x5] (S ++ [.lst (pre.flatMap toldRow)]) = .ok (.lst (toldRow r)) (S ++ [.lst (pre.flatMap toldRow)]) := by
      have hsrc : srcE (eVar 3) [some (dG G), some (.obj S.length), some (.int (r.2 : Int)), some (dR r.1), x4, x5] (S ++ [.lst (pre.flatMap toldRow)]) = .ok (r.1.zipIdx.map fun p : (Option Nat × Option Nat) × Nat => D.tup [.int (p.2 : Int), dB p.1]) (S ++ [.lst (pre.flatMap toldRow)]) := by
        rw [srcE_ok (f := eVar 3) (d := dR r.1) (ds := r.1.map dB) rfl rfl, enum_map]
      refine lc_fzp (enc := fun p : (Option Nat × Option Nat) × Nat => D.tup [.int (p.2 : Int), dB p.1]) (as := r.1.zipIdx) (S1 := S ++ [.lst (pre.flatMap toldRow)]) (fun x => x.1.1.isSome) (fun x => D.tup [.int (r.2 : Int), .int ((x.2 : Int) + 1), oN x.1.1]) hsrc (fun x _ => ?_) (small_line (by rw [List.length_zipIdx]; omega))
      have hix : (e2 opIx (eVar 5) (eC (.int 0))) [some (dG G), some (.obj S.length), some (.int (r.2 : Int)), some (dR r.1), some (.int (x.2 : Int)), some (dB x.1)] (S ++ [.lst (pre.flatMap toldRow)]) = .ok (oN x.1.1) (S ++ [.lst (pre.flatMap toldRow)]) := (e2_ok rfl rfl).trans (opIx_ok (j := 0) rfl rfl)
      exact ⟨[some (dG G), some (.obj S.length), some (.int (r.2 : Int)), some (dR r.1), some (.int (x.2 : Int)), some (dB x.1)], rfl, bval_ok ((e2_ok hix rfl).trans (notN_oN _ _)), fun _ => tup3_ok rfl rfl hix⟩
    refine ⟨[some (dG G), some (.obj S.length), some (.int (r.2 : Int)), some (dR r.1), x4, x5], [some (dG G), some (.obj S.length), some (.int (r.2 : Int)), some (dR r.1), x4, x5], S ++ [.lst ((pre ++ [r]).flatMap toldRow)], rfl, sq_nx ?_ rfl, _, _, _, _, rfl, rfl⟩
    have hmt := (mt1_ok (ck := ckL) (k := mtExtend) (f := eVar 1) (env := [some (dG G), some (.obj S.length), some (.int (r.2 : Int)), some (dR r.1), x4, x5]) (a := .obj S.length) (S1 := S ++ [.lst (pre.flatMap toldRow)]) rfl (ckL_ok hg) hlc).trans (extend_ok hg rfl (small_line (by omega)))
    simp only [sExpr, hmt, bindS_ok]
    rw [set_new, List.flatMap_append, List.flatMap_singleton]
  · obtain ⟨x2, x3, x4, x5, rfl, rfl⟩ := hR
    rfl
theorem rank_ok {n : Nat} {G : List FG.Row} (h : GOk n G) (hn : n ≤ 100) (hG : G.length ≤ 1000) (S : Store) : F_group_rank [dG G] S = .ok (.int ((tos G : Nat) + 1 - (G.length : Nat))) S := by
  refine fn_pure rfl ?_ rfl
  have h1 : (eCB (biLen) (aCons (eCB F_edges_told (aCons (eVar 0) aNil)) aNil)) [some (dG G)] S = .ok (.int ((tos G : Nat) : Int)) S := by
    rw [cb1_ok ((cb1_ok (f := eVar 0) rfl).trans (edges_told_ok h hn hG S)), len_ok (ds := toldE G) rfl, toldE_len]
  have h2 : (eCB (biLen) (aCons (eVar 0) aNil)) [some (dG G)] S = .ok (.int ((G.length : Nat) : Int)) S := by
    rw [cb1_ok (f := eVar 0) (a := dG G) (S1 := S) rfl, len_ok (ds := G.map dR) rfl, List.length_map]
  have h3 : (e2 (opAdd FZ) (eCB (biLen) (aCons (eCB F_edges_told (aCons (eVar 0) aNil)) aNil)) (eC (.int 1))) [some (dG G)] S = .ok (.int ((tos G : Nat) + 1)) S := (e2_ok h1 rfl).trans rfl
  exact sq_rt (ret_ok ((e2_ok (k := opSub) h3 h2).trans rfl))
theorem in_B (b : Option Nat × Option Nat) (S : Store) : opIn .non (dB b) S = .ok (.bl (b.1.isNone || b.2.isNone)) S := by
  obtain ⟨a, b⟩ := b
  cases a <;> cases b <;> rfl
theorem canLay_N (o : Option Nat) : PyData.canLay0 (pyN o) = true ∧ PyData.depth (pyN o) = 0 := by
  cases o <;> simp [pyN, PyData.canLay0, PyData.depth]
theorem canLay_Bs : ∀ l : FG.Row, PyData.canLayAll0 (l.map pyB) = true ∧ PyData.depthAll (l.map pyB) ≤ 1
  | [] => by simp [PyData.canLayAll0, PyData.depthAll]
  | b :: l => by
    have h := canLay_Bs l
    have h1 := canLay_N b.1
    have h2 := canLay_N b.2
    refine ⟨?_, ?_⟩
    · simp only [List.map_cons, PyData.canLayAll0, h.1, Bool.and_true]
      show PyData.canLay0 (.tuple [pyN b.1, pyN b.2]) = true
      simp [PyData.canLay0, PyData.canLayAll0, h1.1, h2.1]
    · simp only [List.map_cons, PyData.depthAll]
      have : PyData.depth (pyB b) = 1 := by
        show PyData.depth (.tuple [pyN b.1, pyN b.2]) = 1
        simp [PyData.depth, PyData.depthAll, h1.2, h2.2]
      have := h.2
      omega
theorem ne_Bs (l : FG.Row) (S : Store) : opNe (.lst (l.map dB)) (.lst []) S = .ok (.bl (!l.isEmpty)) S := by
  have h : toPy S (.lst (l.map dB)) = some (.list (l.map pyB)) := by
    unfold toPy
    simp only [pyG, pyL_map _ dB pyB (pyG_B _), Option.map_some]
  rw [ne_nil h (by
    unfold SeqAt.shaped
    rw [Bool.and_eq_true, decide_eq_true_eq, PyData.canLay0, PyData.depth]
    have := canLay_Bs l
    exact ⟨this.1, by omega⟩)]
  cases l <;> rfl
def whole (G : List FG.Row) : Bool := G.all fun row => row.all fun b => b.1.isSome && b.2.isSome
def giB : SS := (sSeq (sIf (bVal (e2 opNe (eLc FZ (srcV (eVar 1)) (gN 2) [2] (bVal (e2 opIn (eC .non) (eVar 2))) (eVar 2)) (eLst FZ aNil))) (sSeq (sRet (eC .non))
    sNil) sNil)
    sNil)
theorem gi_loop (x0 : Option D) (S : Store) : ∀ (G : List FG.Row) (x1 x2 : Option D), (∀ row ∈ G, row.length ≤ 100000) → if whole G = true then ∃ x1' x2', forL (gN 1) giB (G.map dR) [x0, x1, x2] S = .nx [x0, x1', x2'] S else forL (gN 1) giB (G.map dR) [x0, x1, x2] S = .rt .non S
  | [], x1, x2, _ => by
    rw [if_pos (show whole [] = true from rfl)]
    exact ⟨x1, x2, rfl⟩
  | row :: G, x1, x2, hl => by
    have hlc : (eLc FZ (srcV (eVar 1)) (gN 2) [2] (bVal (e2 opIn (eC .non) (eVar 2))) (eVar 2)) [x0, some (dR row), x2] S = .ok (.lst ((row.filter fun b => b.1.isNone || b.2.isNone).map dB)) S := by
      refine lc_fzp (enc := dB) (as := row) (S1 := S) (fun b => b.1.isNone || b.2.isNone) dB (srcV_ok rfl rfl) (fun b _ => ⟨[x0, some (dR row), some (dB b)], rfl, bval_ok ((e2_ok rfl rfl).trans (in_B b S)), fun _ => rfl⟩) (small_line (by have := hl row List.mem_cons_self; omega))
    have hb : (bVal (e2 opNe (eLc FZ (srcV (eVar 1)) (gN 2) [2] (bVal (e2 opIn (eC .non) (eVar 2))) (eVar 2)) (eLst FZ aNil))) [x0, some (dR row), x2] S = .ok (!(row.filter fun b => b.1.isNone || b.2.isNone).isEmpty) S := bval_ok ((e2_ok hlc (lst0 _ _)).trans (ne_Bs _ S))
    have hw : (row.filter fun b => b.1.isNone || b.2.isNone).isEmpty = row.all fun b => b.1.isSome && b.2.isSome := by
      clear hlc hb hl
      induction row with
      | nil => rfl
      | cons b r ih =>
        rw [List.all_cons, ← ih, List.filter_cons]
        obtain ⟨x, y⟩ := b
        cases x <;> cases y <;> simp
    rw [hw] at hb
    have hg : gN 1 (dR row) [x0, x1, x2] = some [x0, some (dR row), x2] := rfl
    rw [List.map_cons]
    have hwh : whole (row :: G) = ((row.all fun b => b.1.isSome && b.2.isSome) && whole G) := by
      unfold whole
      rw [List.all_cons]
    rw [hwh]
    cases e : (row.all fun b => b.1.isSome && b.2.isSome) with
    | true =>
      rw [e] at hb
      have hB : giB [x0, some (dR row), x2] S = .nx [x0, some (dR row), x2] S := sq_nx ((if_no hb).trans rfl) rfl
      have ih := gi_loop x0 S G (some (dR row)) x2 fun r hr => hl r (List.mem_cons_of_mem _ hr)
      rw [Bool.true_and]
      unfold forL
      rw [hg]
      dsimp only
      rw [hB]
      exact ih
    | false =>
      rw [e] at hb
      have hB : giB [x0, some (dR row), x2] S = .rt .non S := sq_rt ((if_yes hb).trans rfl)
      rw [Bool.false_and, if_neg Bool.false_ne_true]
      unfold forL
      rw [hg]
      dsimp only
      rw [hB]
theorem index_ok' (G : List FG.Row) (hl : ∀ row ∈ G, row.length ≤ 100000) (S : Store) : F_group_index [dG G] S = .ok (if whole G = true then .int ((G.length : Nat) : Int) else .non) S := by
  have := gi_loop (some (dG G)) S G none none hl
  refine fn_pure rfl ?_ (by cases whole G <;> rfl)
  unfold u_group_index
  show sSeq _ _ [some (dG G), none, none] S = _
  cases e : whole G with
  | true =>
    rw [e, if_pos rfl] at this
    obtain ⟨x1', x2', this⟩ := this
    refine sq_nx (for_nx (srcV_ok (f := eVar 0) (d := dG G) rfl rfl) this) ?_
    refine sq_rt (ret_ok ?_)
    rw [cb1_ok (f := eVar 0) (a := dG G) (S1 := S) rfl, len_ok (ds := G.map dR) rfl, List.length_map]
    rfl
  | false =>
    rw [e, if_neg Bool.false_ne_true] at this
    refine sq_rt ?_
    unfold sFor
    rw [srcV_ok (f := eVar 0) (d := dG G) (ds := G.map dR) rfl rfl]
    exact this
end K48
set_option Elab.async false
set_option linter.all false
set_option maxRecDepth 100000
set_option maxHeartbeats 1000000
namespace K48
open PySem PySem.Spec PySem.W PyProof.Rows L2 Hx
open FG (E3 eS Cp St Fd Rd Wk Let)
/-! ### words -/
theorem mem_net {x : Int} : ∀ {w : List Int}, x ∈ net w → x ∈ w
  | [], h => h
  | y :: r, h => by
    have h' : x ∈ push y (net r) := h
    cases e : net r with
    | nil =>
      rw [e] at h'
      have : x = y := by simpa [push] using h'
      rw [this]
      exact List.mem_cons_self
    | cons z t =>
      rw [e] at h'
      have sub : ∀ u, u ∈ z :: t → u ∈ r := fun u hu => mem_net (by rw [e]; exact hu)
      have hpu : push y (z :: t) = if y + z = 0 then t else y :: z :: t := rfl
      rw [hpu] at h'
      by_cases q : y + z = 0
      · rw [if_pos q] at h'
        exact List.mem_cons_of_mem _ (sub x (List.mem_cons_of_mem _ h'))
      · rw [if_neg q] at h'
        rcases List.mem_cons.mp h' with rfl | h'
        · exact List.mem_cons_self
        · exact List.mem_cons_of_mem _ (sub x h')
theorem net_let {n : Nat} {w : List Int} (h : Let n w) : Let n (net w) := fun s hs => h s (mem_net hs)
theorem net_wk {E : FG.ES} (f : Fd E) : ∀ {w : List Int} {p q : Int}, Wk E p w q → Wk E p (net w) q
  | [], _, _, h => h
  | x :: r, p, q, ⟨t, h1, h2⟩ => by
    have ih := net_wk f h2
    show Wk E p (push x (net r)) q
    cases e : net r with
    | nil =>
      rw [e] at ih
      exact ⟨t, h1, ih⟩
    | cons y l =>
      rw [e] at ih
      have hpu : push x (y :: l) = if x + y = 0 then l else x :: y :: l := rfl
      rw [hpu]
      by_cases z : x + y = 0
      · rw [if_pos z]
        exact Wk.cancel f z ⟨t, h1, ih⟩
      · rw [if_neg z]
        exact ⟨t, h1, ih⟩
def inv (w : List Int) : List Int := w.reverse.map fun x => 0 - x
theorem inv_let {n : Nat} {w : List Int} (h : Let n w) : Let n (inv w) := fun s hs => by
  obtain ⟨x, hx, rfl⟩ := List.mem_map.mp hs
  have := h x (List.mem_reverse.mp hx)
  omega
theorem inv_len (w : List Int) : (inv w).length = w.length := by
  unfold inv
  rw [List.length_map, List.length_reverse]
theorem inv_wk {E : FG.ES} {w : List Int} {p q : Int} (h : Wk E p w q) : Wk E q (inv w) p := h.rev
theorem inv_inv (w : List Int) : inv (inv w) = w := by
  unfold inv
  rw [← List.map_reverse, List.reverse_reverse, List.map_map]
  have : ((fun x : Int => 0 - x) ∘ fun x => 0 - x) = id := by
    funext x
    show 0 - (0 - x) = x
    omega
  rw [this, List.map_id]
theorem app_let {n : Nat} {v w : List Int} (h : Let n v) (k : Let n w) : Let n (v ++ w) := fun s hs => (List.mem_append.mp hs).elim (h s) (k s)
theorem take_let {n k : Nat} {w : List Int} (h : Let n w) : Let n (w.take k) := fun s hs => h s (List.mem_of_mem_take hs)
theorem dW_inj {v w : List Int} (h : dW v = dW w) : v = w := by
  unfold dW at h
  have : v.map D.int = w.map D.int := D.tup.inj h
  exact (List.map_inj_right fun x y e => D.int.inj e).mp this
theorem add_W (v w : List Int) (S : Store) (h : v.length + w.length ≤ 200000) : opAdd FZ (dW v) (dW w) S = .ok (dW (v ++ w)) S := by
  unfold opAdd dW
  dsimp only
  rw [if_pos (by rw [List.length_map, List.length_map]; exact small_line h), List.map_append]
theorem cut_take (ds : List D) (k : Nat) : Hx.cutD ds none (some (k : Int)) = ds.take k := by
  unfold Hx.cutD
  rw [HT.sIx_nat, HT.sIx_none, List.drop_zero, Nat.sub_zero, List.take_eq_take_iff]
  omega
theorem sl_W {f : SE} {env : Ev} {S : Store} {w : List Int} (k : Nat) (h : f env S = .ok (dW w) S) : eSl FZ f oNone (oSome (eC (.int (k : Int)))) env S = .ok (dW (w.take k)) S := by
  unfold eSl
  rw [h, R.bind_ok]
  unfold oNone oSome eC
  simp only [R.bind_ok]
  show opSl FZ (.tup _) _ _ S = _
  unfold opSl
  dsimp only
  rw [cut_take, ← List.map_take]
  rfl
theorem und_ok (w : List Int) (S : Store) (h : w.length ≤ 200000) : F__law_undone [dW w] S = .ok (dW (inv w)) S := un_law w S (small_line h)
theorem triple_W (w : List Int) (S : Store) (h : w.length ≤ 1000) : opMulX FZ (dW w) (.int 3) S = .ok (dW (w ++ (w ++ w))) S := by
  cases w with
  | nil => rfl
  | cons a r =>
    have h1 : ¬ (-(2 ^ 63) ≤ (3 : Int) ∧ (3 : Int) < 2 ^ 63 ∧ ((a :: r).map D.int = [] ∨ (3 : Int) = 1)) := by simp
    have h2 : (a :: r).map D.int ≠ [] ∧ (2 : Int) ≤ 3 ∧ (3 : Int) ≤ 1000 ∧ ((a :: r).map D.int).length ≤ 1000 := ⟨by simp, by decide, by decide, by rw [List.length_map]; exact h⟩
    unfold opMulX dW
    dsimp only
    rw [if_neg h1]
    unfold opMul
    dsimp only
    rw [if_pos h2]
    have : (List.replicate (3 : Int).toNat ((a :: r).map D.int)).flatten = ((a :: r) ++ ((a :: r) ++ (a :: r))).map D.int := by
      rw [List.map_append, List.map_append]
      show (List.replicate 3 _).flatten = _
      simp [List.replicate]
    rw [this]
/-! ### comprehensions that draw -/
theorem lcL_inv {α : Type} {enc : α → D} {g : SG} {c : SB} {el : SE} {env : Ev} (as : List α) (hN : as.length ≤ 200000) (I : List α → List D → Store → Prop)
    (st : ∀ pre a post acc S, as = pre ++ a :: post → acc.length = pre.length → I pre acc S → ∃ env1 y S', g (enc a) env = some env1 ∧ c env1 S = .ok true S ∧ el env1 S = .ok y S' ∧ I (pre ++ [a]) (acc ++ [y]) S') :
    ∀ (post pre : List α) (acc : List D) (S : Store), as = pre ++ post → acc.length = pre.length → I pre acc S → ∃ out S', lcL g c el env (post.map enc) acc S = .ok out S' ∧ I as out S' ∧ out.length = as.length
  | [], pre, acc, S, e, hl, h => ⟨acc, S, by simp [lcL], by rw [e, List.append_nil]; exact h, by rw [e, List.append_nil, hl]⟩
  | a :: r, pre, acc, S, e, hl, h => by
    obtain ⟨env1, y, S', e1, e2, e3, h2⟩ := st pre a r acc S e hl h
    obtain ⟨out, S2, e4, h3, h4⟩ := lcL_inv as hN I st r (pre ++ [a]) (acc ++ [y]) S' (by rw [e, List.append_assoc]; rfl) (by rw [List.length_append, List.length_append, hl]; rfl) h2
    refine ⟨out, S2, ?_, h3, h4⟩
    have hlt : acc.length < sizeLine := by
      have := congrArg List.length e
      rw [List.length_append, List.length_cons] at this
      exact Nat.lt_of_lt_of_le (by omega : acc.length < 200000) line_big
    rw [List.map_cons]
    unfold lcL
    rw [e1]
    dsimp only
    rw [e2]
    simp only [noX, R.bind_ok, if_true]
    rw [e3]
    simp only [noX, R.bind_ok]
    rw [if_pos hlt]
    exact e4
section
variable {rest : Store}
theorem cut_obj {S S' : Store} {xs : List D} (h : SrcS rest S) (h' : SrcS (rest ++ [.lst xs]) S') (hp : D.pureL xs = true) : ∃ S2, SrcS rest S2 ∧ cutR S (.ok (.obj (rest.length + 2)) S') = .ok (.lst xs) S2 := by
  have hat := h'.at
  have hlen := h.len
  obtain ⟨l, m, t, c, _, rfl⟩ := h
  obtain ⟨l', m', t', c', hc, rfl⟩ := h'
  refine ⟨sS rest l' m' t' c', ⟨l', m', t', c', hc, rfl⟩, ?_⟩
  unfold cutR
  dsimp only
  rw [if_pos (okS_grown l m t l' m' t' c c' [.lst xs]), frz_lst hat (by rw [hlen]; exact Nat.le_refl _) hp]
  dsimp only
  have : (sS (rest ++ [.lst xs]) l' m' t' c').take (sS rest l m t c).length = sS rest l' m' t' c' := by
    have e : sS (rest ++ [.lst xs]) l' m' t' c' = sS rest l' m' t' c' ++ [.lst xs] := rfl
    have hl : (sS rest l m t c).length = (sS rest l' m' t' c').length := by simp [sS]
    rw [e, hl, List.take_left]
  rw [this]
theorem pick_of (many : Nat) (S : Store) (hS : SrcS rest S) (hm : many < 100000) : ∃ (r : Nat) (S' : Store), SrcS rest S' ∧ F__law_pick [.obj 0, .int (many : Int)] S = .ok (.int (r : Int)) S' ∧ (r < many ∨ r = 0) := by
  obtain ⟨r, S', h1, h2, h3, h4⟩ := pick_law rest (many : Int) S hS (by omega)
  refine ⟨r.toNat, S', h1, ?_, by omega⟩
  rw [h2]
  congr 2
  omega
theorem doing_ok (n m : Nat) (hn : 1 ≤ n ∧ n ≤ 100) (hm : m ≤ 1000) (S : Store) (hS : SrcS rest S) : ∃ w S', SrcS rest S' ∧ Let n w ∧ w.length ≤ m ∧ F__law_doing [.obj 0, .int (n : Int), .int (m : Int)] S = .ok (dW w) S' := by
  obtain ⟨r, S1, hS1, ep1, hr⟩ := pick_of (m + 1) S hS (by omega)
  have hrm : r ≤ m := by omega
  obtain ⟨out, S2, ep2, ⟨ns, rfl, hS2, hns⟩, hlen⟩ := lcL_inv (enc := fun k : Nat => D.int (k : Int)) (g := gN 4) (c := bYes) (el := (e2 (opMulX FZ) (eCB F__law_of (aCons (eVar 0) (aCons (eLst FZ (aCons (eC (.int 1)) (aCons (e1 opNeg (eC (.int 1))) aNil))) aNil))) (e2 (opAdd FZ) (eC (.int 1)) (eCB F__law_pick (aCons (eVar 0) (aCons (eVar 1) aNil))))))
    (env := [some (.obj 0), some (.int (n : Int)), some (.int (m : Int)), none, none]) (List.range r) (by rw [List.length_range]; omega) (fun _ acc S => ∃ ns : List Int, acc = ns.map .int ∧ SrcS rest S ∧ Let n ns)
    (fun pre a post acc S' _ _ hI => by
      obtain ⟨ns, rfl, hS', hns⟩ := hI
      obtain ⟨x, S3, hS3, hx, eof⟩ := of_law (rest := rest) (d := .lst [.int 1, .int (-1)]) (ds := [.int 1, .int (-1)]) S' hS' (fun _ _ => rfl) (by simp) (fun x hx => by
        simp only [List.mem_cons, List.not_mem_nil, or_false] at hx
        rcases hx with rfl | rfl <;> rfl) (by decide)
      obtain ⟨k, S4, hS4, epk, hk⟩ := pick_of n S3 hS3 (by omega)
      obtain ⟨v, rfl, hv⟩ : ∃ v : Int, x = .int v ∧ (v = 1 ∨ v = -1) := by
        simp only [List.mem_cons, List.not_mem_nil, or_false] at hx
        rcases hx with rfl | rfl
        · exact ⟨1, rfl, .inl rfl⟩
        · exact ⟨-1, rfl, .inr rfl⟩
      have hsm : Hx.small64 (1 + (k : Int)) = true := decide_eq_true ⟨by omega, by omega⟩
      refine ⟨[some (.obj 0), some (.int (n : Int)), some (.int (m : Int)), none, some (.int (a : Int))], .int (v * (1 + (k : Int))), S4, rfl, rfl, ?_, ns ++ [v * (1 + (k : Int))], by rw [List.map_append]; rfl, hS4, fun s hs => ?_⟩
      · have h1 : (eCB F__law_of (aCons (eVar 0) (aCons (eLst FZ (aCons (eC (.int 1)) (aCons (e1 opNeg (eC (.int 1))) aNil))) aNil))) [some (.obj 0), some (.int (n : Int)), some (.int (m : Int)), none, some (.int (a : Int))] S' = .ok (.int v) S3 := (cb2_ok rfl (lst2_ok rfl rfl)).trans eof
        have h2 : (e2 (opAdd FZ) (eC (.int 1)) (eCB F__law_pick (aCons (eVar 0) (aCons (eVar 1) aNil)))) [some (.obj 0), some (.int (n : Int)), some (.int (m : Int)), none, some (.int (a : Int))] S3 = .ok (.int (1 + (k : Int))) S4 := (e2_ok rfl ((cb2_ok rfl rfl).trans epk)).trans rfl
        exact (e2_ok h1 h2).trans (mul_small v _ S4 hsm)
      · rcases List.mem_append.mp hs with hs | hs
        · exact hns s hs
        · rw [List.mem_singleton.mp hs]
          rcases hv with rfl | rfl <;> omega) (List.range r) [] [] S1 rfl rfl ⟨[], rfl, hS1, fun s hs => by simp at hs⟩
  rw [List.length_map, List.length_range] at hlen
  refine ⟨net ns, S2, hS2, net_let hns, by have := net_len ns; omega, ?_⟩
  have hlc : (eLc FZ (srcR1 (eCB F__law_pick (aCons (eVar 0) (aCons (e2 (opAdd FZ) (eVar 2) (eC (.int 1))) aNil)))) (gN 4) [4] bYes (e2 (opMulX FZ) (eCB F__law_of (aCons (eVar 0) (aCons (eLst FZ (aCons (eC (.int 1)) (aCons (e1 opNeg (eC (.int 1))) aNil))) aNil))) (e2 (opAdd FZ) (eC (.int 1)) (eCB F__law_pick (aCons (eVar 0) (aCons (eVar 1) aNil)))))) [some (.obj 0), some (.int (n : Int)), some (.int (m : Int)), none, none] S = .ok (.lst (ns.map .int)) S2 := by
    have hsrc : srcR1 (eCB F__law_pick (aCons (eVar 0) (aCons (e2 (opAdd FZ) (eVar 2) (eC (.int 1))) aNil))) [some (.obj 0), some (.int (n : Int)), some (.int (m : Int)), none, none] S = .ok ((List.range r).map fun i : Nat => D.int (i : Int)) S1 :=
      srcR1_of ((cb2_ok (b := .int ((m + 1 : Nat) : Int)) rfl rfl).trans ep1) (inR_of _ (by omega)) (by omega)
    unfold eLc
    rw [hsrc, R.bind_ok]
    show (lcL _ _ _ [some (.obj 0), some (.int (n : Int)), some (.int (m : Int)), none, none] _ _ _).bind _ = _
    rw [ep2, R.bind_ok]
    rfl
  have hrun : defF 3 5 u__law_doing [.obj 0, .int (n : Int), .int (m : Int)] S = .ok (dW (net ns)) S2 := by
    refine fn_run rfl ?_
    refine sq_nx (env' := [some (.obj 0), some (.int (n : Int)), some (.int (m : Int)), some (.lst (ns.map .int)), none]) (S' := S2) ?_ ?_
    · exact set_ok hlc
    · exact sq_rt (ret_ok ((cb1_ok rfl).trans (net_lawG ns (.lst (ns.map .int)) S2 (.inr rfl) (by omega))))
  unfold F__law_doing cutF
  rw [hrun]
  exact cut_src hS hS2 (dW_pure _)
end
end K48
set_option Elab.async false
set_option linter.all false
set_option maxRecDepth 100000
set_option maxHeartbeats 1000000
namespace K48
open PySem PySem.Spec PySem.W PyProof.Rows L2 Hx
open FG (E3 eS Cp St Fd Rd Wk Let)
section
variable {rest : Store}
/-- one of several words -/
theorem of_words {d : D} {ws : List (List Int)} (S : Store) (hS : SrcS rest S) (hd : ∀ S', SrcS rest S' → seqL S' d = some (ws.map dW)) (hn : ws ≠ []) (hl : ws.length < 100000) : ∃ w S', SrcS rest S' ∧ w ∈ ws ∧ F__law_of [.obj 0, d] S = .ok (dW w) S' := by
  obtain ⟨x, S', h1, h2, h3⟩ := of_law S hS hd (by simpa using hn) (pure_map fun w _ => dW_pure w) (by rw [List.length_map]; omega)
  obtain ⟨w, hw, rfl⟩ := List.mem_map.mp h2
  exact ⟨w, S', h1, hw, h3⟩
theorem ne_obj {S : Store} {i : Nat} {ws : List (List Int)} (h : S[i]? = some (.lst (ws.map dW))) : opNe (.obj i) (.lst []) S = .ok (.bl (!ws.isEmpty)) S := by
  have hp : toPy S (.obj i) = some (.list (ws.map pyW)) := by
    unfold toPy
    rw [pyG]
    show pyO S 3 i = _
    unfold pyO
    rw [h]
    dsimp only
    rw [pyL_words, Option.map_some]
  rw [ne_nil hp (shaped_words ws)]
  cases ws <;> rfl
def dsB : SS := (sSeq (sSet 4 (eCB F__law_pick (aCons (eVar 0) (aCons (eC (.int 6)) aNil))))
    (sSeq (sSet 5 (eCB F__law_doing (aCons (eVar 0) (aCons (eVar 1) (aCons (eC (.int 5)) aNil)))))
    (sSeq (sIf (bAnd (bVal (e2 opEq (eVar 4) (eC (.int 0)))) (bVal (e2 opNe (eVar 2) (eLst FZ aNil)))) (sSeq (sSet 5 (eCB F__law_net (aCons (e2 (opAdd FZ) (eCB F__law_of (aCons (eVar 0) (aCons (eVar 2) aNil))) (eCB F__law_undone (aCons (eCB F__law_of (aCons (eVar 0) (aCons (eVar 2) aNil))) aNil))) aNil)))
    sNil) sNil)
    (sSeq (sIf (bAnd (bVal (e2 opEq (eVar 4) (eC (.int 1)))) (bVal (e2 opNe (eVar 2) (eLst FZ aNil)))) (sSeq (sSet 5 (eCB F__law_net (aCons (e2 (opAdd FZ) (e2 (opAdd FZ) (eSl FZ (eVar 5) oNone (oSome (eC (.int 2)))) (eCB F__law_of (aCons (eVar 0) (aCons (eVar 2) aNil)))) (eCB F__law_undone (aCons (eSl FZ (eVar 5) oNone (oSome (eC (.int 2)))) aNil))) aNil)))
    sNil) sNil)
    (sSeq (sIf (bVal (e2 opEq (eVar 4) (eC (.int 2)))) (sSeq (sSet 5 (eCB F__law_net (aCons (e2 (opMulX FZ) (eSl FZ (eVar 5) oNone (oSome (eC (.int 2)))) (eC (.int 3))) aNil)))
    sNil) sNil)
    (sSeq (sExpr (eMt ckL mtAppend (eVar 2) (aCons (eSl FZ (eVar 5) oNone (oSome (eC (.int 8)))) aNil)))
    sNil))))))
abbrev dsE (n : Nat) (k : Nat) (x3 x4 x5 : Option D) : Ev := [some (.obj 0), some (.int (n : Int)), some (.obj (k + 2)), x3, x4, x5]
theorem dsB_ok (n : Nat) (hn : 1 ≤ n ∧ n ≤ 100) (ws : List (List Int)) (hl : ws.length ≤ 1000) (hws : ∀ w ∈ ws, Let n w ∧ w.length ≤ 8) (x3 x4 x5 : Option D) (S : Store) (hS : SrcS (rest ++ [.lst (ws.map dW)]) S) :
    ∃ w x4' x5' S', Let n w ∧ w.length ≤ 8 ∧ SrcS (rest ++ [.lst ((ws ++ [w]).map dW)]) S' ∧ dsB (dsE n rest.length x3 x4 x5) S = .nx (dsE n rest.length x3 x4' x5') S' := by
  obtain ⟨r, S1, hS1, ep1, _⟩ := pick_of 6 S hS (by decide)
  obtain ⟨w0, S2, hS2, l0, n0, ep2⟩ := doing_ok n 5 hn (by decide) S1 hS1
  have hcond : ∀ (c : Int) (x5 : Option D) (S : Store), SrcS (rest ++ [.lst (ws.map dW)]) S → (bAnd (bVal (e2 opEq (eVar 4) (eC (.int c)))) (bVal (e2 opNe (eVar 2) (eLst FZ aNil)))) (dsE n rest.length x3 (some (.int (r : Int))) x5) S = .ok (decide ((r : Int) = c) && !ws.isEmpty) S := fun c x5 S hS =>
    and2 (bval_ok ((e2_ok rfl rfl).trans (eqI _ _ _))) (bval_ok ((e2_ok rfl (lst0 _ _)).trans (ne_obj hS.at)))
  have hof : ∀ (x5 : Option D) (S : Store), SrcS (rest ++ [.lst (ws.map dW)]) S → ws ≠ [] → ∃ w S', SrcS (rest ++ [.lst (ws.map dW)]) S' ∧ w ∈ ws ∧ (eCB F__law_of (aCons (eVar 0) (aCons (eVar 2) aNil))) (dsE n rest.length x3 (some (.int (r : Int))) x5) S = .ok (dW w) S' := fun x5 S hS hne => by
    obtain ⟨w, S', h1, h2, h3⟩ := of_words (d := .obj (rest.length + 2)) S hS (fun S' h => seq_obj h.at) hne (by omega)
    exact ⟨w, S', h1, h2, (cb2_ok rfl rfl).trans h3⟩
  -- three ways
  obtain ⟨w1, S3, l1, n1, hS3, e3⟩ : ∃ w1 S3, Let n w1 ∧ w1.length ≤ 1000 ∧ SrcS (rest ++ [.lst (ws.map dW)]) S3 ∧ sIf (bAnd (bVal (e2 opEq (eVar 4) (eC (.int 0)))) (bVal (e2 opNe (eVar 2) (eLst FZ aNil)))) (sSeq (sSet 5 (eCB F__law_net (aCons (e2 (opAdd FZ) (eCB F__law_of (aCons (eVar 0) (aCons (eVar 2) aNil))) (eCB F__law_undone (aCons (eCB F__law_of (aCons (eVar 0) (aCons (eVar 2) aNil))) aNil))) aNil)))
    sNil) sNil (dsE n rest.length x3 (some (.int (r : Int))) (some (dW w0))) S2 = .nx (dsE n rest.length x3 (some (.int (r : Int))) (some (dW w1))) S3 := by
    by_cases q : (decide ((r : Int) = 0) && !ws.isEmpty) = true
    · have hne : ws ≠ [] := fun z => by subst z; simp at q
      obtain ⟨u, Sa, ha, hu, ea⟩ := hof (some (dW w0)) S2 hS2 hne
      obtain ⟨v, Sb, hb, hv, eb⟩ := hof (some (dW w0)) Sa ha hne
      have hu8 := hws u hu
      have hv8 := hws v hv
      refine ⟨net (u ++ inv v), Sb, net_let (app_let hu8.1 (inv_let hv8.1)), by have := net_len (u ++ inv v); rw [List.length_append, inv_len] at this; omega, hb, ?_⟩
      rw [if_yes ((hcond 0 _ S2 hS2).trans (by rw [q]))]
      refine sq_nx (set_ok ?_) rfl
      refine (cb1_ok ((e2_ok ea ((cb1_ok eb).trans (und_ok v Sb (by omega)))).trans (add_W u (inv v) Sb (by rw [inv_len]; omega)))).trans (net_law _ _ (by rw [List.length_append, inv_len]; omega))
    · refine ⟨w0, S2, l0, by omega, hS2, ?_⟩
      rw [if_no ((hcond 0 _ S2 hS2).trans (by rw [Bool.eq_false_iff.mpr q]))]
      rfl
  obtain ⟨w2, S4, l2, n2, hS4, e4⟩ : ∃ w2 S4, Let n w2 ∧ w2.length ≤ 1000 ∧ SrcS (rest ++ [.lst (ws.map dW)]) S4 ∧ sIf (bAnd (bVal (e2 opEq (eVar 4) (eC (.int 1)))) (bVal (e2 opNe (eVar 2) (eLst FZ aNil)))) (sSeq (sSet 5 (eCB F__law_net (aCons (e2 (opAdd FZ) (e2 (opAdd FZ) (eSl FZ (eVar 5) oNone (oSome (eC (.int 2)))) (eCB F__law_of (aCons (eVar 0) (aCons (eVar 2) aNil)))) (eCB F__law_undone (aCons (eSl FZ (eVar 5) oNone (oSome (eC (.int 2)))) aNil))) aNil)))
    sNil) sNil (dsE n rest.length x3 (some (.int (r : Int))) (some (dW w1))) S3 = .nx (dsE n rest.length x3 (some (.int (r : Int))) (some (dW w2))) S4 := by
    by_cases q : (decide ((r : Int) = 1) && !ws.isEmpty) = true
    · have hne : ws ≠ [] := fun z => by subst z; simp at q
      obtain ⟨u, Sa, ha, hu, ea⟩ := hof (some (dW w1)) S3 hS3 hne
      have hu8 := hws u hu
      have hsl : ∀ S, (eSl FZ (eVar 5) oNone (oSome (eC (.int 2)))) (dsE n rest.length x3 (some (.int (r : Int))) (some (dW w1))) S = .ok (dW (w1.take 2)) S := fun S => sl_W 2 rfl
      have ht : (w1.take 2).length ≤ 2 := by rw [List.length_take]; omega
      refine ⟨net ((w1.take 2 ++ u) ++ inv (w1.take 2)), Sa, net_let (app_let (app_let (take_let l1) hu8.1) (inv_let (take_let l1))), by have := net_len ((w1.take 2 ++ u) ++ inv (w1.take 2)); rw [List.length_append, List.length_append, inv_len] at this; omega, ha, ?_⟩
      rw [if_yes ((hcond 1 _ S3 hS3).trans (by rw [q]))]
      refine sq_nx (set_ok ?_) rfl
      have h1 : (e2 (opAdd FZ) (eSl FZ (eVar 5) oNone (oSome (eC (.int 2)))) (eCB F__law_of (aCons (eVar 0) (aCons (eVar 2) aNil)))) (dsE n rest.length x3 (some (.int (r : Int))) (some (dW w1))) S3 = .ok (dW (w1.take 2 ++ u)) Sa := (e2_ok (hsl S3) ea).trans (add_W _ _ Sa (by omega))
      have h2 : (eCB F__law_undone (aCons (eSl FZ (eVar 5) oNone (oSome (eC (.int 2)))) aNil)) (dsE n rest.length x3 (some (.int (r : Int))) (some (dW w1))) Sa = .ok (dW (inv (w1.take 2))) Sa := (cb1_ok (hsl Sa)).trans (und_ok _ Sa (by omega))
      refine (cb1_ok ((e2_ok h1 h2).trans (add_W _ _ Sa (by rw [inv_len, List.length_append]; omega)))).trans (net_law _ _ (by rw [List.length_append, inv_len, List.length_append]; omega))
    · refine ⟨w1, S3, l1, by omega, hS3, ?_⟩
      rw [if_no ((hcond 1 _ S3 hS3).trans (by rw [Bool.eq_false_iff.mpr q]))]
      rfl
  obtain ⟨w3, l3, n3, e5⟩ : ∃ w3, Let n w3 ∧ w3.length ≤ 1000 ∧ sIf (bVal (e2 opEq (eVar 4) (eC (.int 2)))) (sSeq (sSet 5 (eCB F__law_net (aCons (e2 (opMulX FZ) (eSl FZ (eVar 5) oNone (oSome (eC (.int 2)))) (eC (.int 3))) aNil)))
    sNil) sNil (dsE n rest.length x3 (some (.int (r : Int))) (some (dW w2))) S4 = .nx (dsE n rest.length x3 (some (.int (r : Int))) (some (dW w3))) S4 := by
    have hc : (bVal (e2 opEq (eVar 4) (eC (.int 2)))) (dsE n rest.length x3 (some (.int (r : Int))) (some (dW w2))) S4 = .ok (decide ((r : Int) = 2)) S4 := bval_ok ((e2_ok rfl rfl).trans (eqI _ _ _))
    by_cases q : (r : Int) = 2
    · have hsl : ∀ S, (eSl FZ (eVar 5) oNone (oSome (eC (.int 2)))) (dsE n rest.length x3 (some (.int (r : Int))) (some (dW w2))) S = .ok (dW (w2.take 2)) S := fun S => sl_W 2 rfl
      have ht : (w2.take 2).length ≤ 2 := by rw [List.length_take]; omega
      refine ⟨net (w2.take 2 ++ (w2.take 2 ++ w2.take 2)), net_let (app_let (take_let l2) (app_let (take_let l2) (take_let l2))), by have := net_len (w2.take 2 ++ (w2.take 2 ++ w2.take 2)); rw [List.length_append, List.length_append] at this; omega, ?_⟩
      rw [if_yes (hc.trans (by rw [decide_eq_true q]))]
      refine sq_nx (set_ok ?_) rfl
      exact (cb1_ok ((e2_ok (hsl S4) rfl).trans (triple_W _ S4 (by omega)))).trans (net_law _ _ (by rw [List.length_append, List.length_append]; omega))
    · refine ⟨w2, l2, n2, ?_⟩
      rw [if_no (hc.trans (by rw [decide_eq_false q]))]
      rfl
  refine ⟨w3.take 8, some (.int (r : Int)), some (dW w3), S4.set (rest.length + 2) (.lst (ws.map dW ++ [dW (w3.take 8)])), take_let l3, by rw [List.length_take]; omega, ?_, ?_⟩
  · rw [List.map_append]
    exact hS4.put _
  · unfold dsB
    refine sq_nx (env' := dsE n rest.length x3 (some (.int (r : Int))) x5) (S' := S1) (set_ok ((cb2_ok rfl rfl).trans ep1)) ?_
    refine sq_nx (env' := dsE n rest.length x3 (some (.int (r : Int))) (some (dW w0))) (S' := S2) (set_ok ((cb3_ok rfl rfl rfl).trans ep2)) ?_
    refine sq_nx e3 (sq_nx e4 (sq_nx e5 (sq_nx ?_ rfl)))
    have hg := hS4.at
    exact app_st (i := rest.length + 2) rfl hg (sl_W 8 rfl) hg (by rw [List.length_map]; exact Nat.lt_of_lt_of_le (by omega : ws.length < 200000) line_big)
theorem doings_ok (n : Nat) (hn : 1 ≤ n ∧ n ≤ 100) (S : Store) (hS : SrcS rest S) : ∃ (ws : List (List Int)) (S' : Store), SrcS rest S' ∧ (∀ w ∈ ws, Let n w ∧ w.length ≤ 8) ∧ ws.length ≤ 4 ∧ F__law_doings [.obj 0, .int (n : Int)] S = .ok (.lst (ws.map dW)) S' := by
  have hS0 : SrcS (rest ++ [.lst (([] : List (List Int)).map dW)]) (S ++ [.lst []]) := hS.grow _
  obtain ⟨r, S1, hS1, ep1, hr⟩ := pick_of 5 (S ++ [.lst []]) hS0 (by decide)
  obtain ⟨env', S2, e, x3, x4, x5, ws, rfl, hS2, hlen, hws⟩ := forL_inv (enc := fun k : Nat => D.int (k : Int)) (g := gN 3) (u := dsB) (List.range r) (fun pre env S' => ∃ x3 x4 x5 ws, env = dsE n rest.length x3 x4 x5 ∧ SrcS (rest ++ [.lst (ws.map dW)]) S' ∧ ws.length = pre.length ∧ ∀ w ∈ ws, Let n w ∧ w.length ≤ 8)
    (fun pre a post env S' hap hR => by
      obtain ⟨x3, x4, x5, ws, rfl, hS', hl, hws⟩ := hR
      have : pre.length < r := by
        have := congrArg List.length hap
        simp at this
        omega
      obtain ⟨w, x4', x5', S3, h1, h2, h3, h4⟩ := dsB_ok n hn ws (by omega) hws (some (.int (a : Int))) x4 x5 S' hS'
      refine ⟨dsE n rest.length (some (.int (a : Int))) x4 x5, _, _, rfl, .inl h4, _, _, _, ws ++ [w], rfl, h3, by rw [List.length_append, List.length_append, hl]; rfl, fun v hv => ?_⟩
      rcases List.mem_append.mp hv with hv | hv
      · exact hws v hv
      · rw [List.mem_singleton.mp hv]
        exact ⟨h1, h2⟩) (List.range r) [] (dsE n rest.length none none none) S1 rfl ⟨none, none, none, [], rfl, hS1, rfl, fun w hw => by simp at hw⟩
  obtain ⟨S3, hS3, ecut⟩ := cut_obj hS hS2 (pureL_of (pure_map fun w _ => dW_pure w))
  rw [List.length_range] at hlen
  refine ⟨ws, S3, hS3, hws, by omega, ?_⟩
  have hrun : defF 2 6 u__law_doings [.obj 0, .int (n : Int)] S = .ok (.obj (rest.length + 2)) S2 := by
    refine fn_run rfl ?_
    unfold u__law_doings
    refine sq_nx (env' := dsE n rest.length none none none) (S' := S ++ [.lst []]) ?_ ?_
    · have h0 : eLst BX aNil [some (.obj 0), some (.int (n : Int)), none, none, none, none] S = .ok (.obj (rest.length + 2)) (S ++ [.lst []]) := by
        rw [← hS.len]
        rfl
      exact set_ok h0
    refine sq_nx (for_nx (srcR1_of ((cb2_ok rfl rfl).trans ep1) (inR_of _ (by omega)) (by omega)) e) ?_
    exact sq_rt (ret_ok rfl)
  unfold F__law_doings cutF
  rw [hrun]
  exact ecut
end
end K48
set_option Elab.async false
set_option linter.all false
set_option maxRecDepth 100000
set_option maxHeartbeats 1000000
namespace K48
open PySem PySem.Spec PySem.W PyProof.Rows L2 Hx
open FG (E3 eS Cp St Fd Rd Wk Let)
section
variable {rest : Store}
theorem mixed_words {d : D} {ws : List (List Int)} (S : Store) (hS : SrcS rest S) (hd : ∀ S', SrcS rest S' → seqL S' d = some (ws.map dW)) (hl : ws.length < 100000) :
    ∃ (vs : List (List Int)) (S' : Store), SrcS rest S' ∧ vs.length = ws.length ∧ (∀ w, w ∈ vs ↔ w ∈ ws) ∧ F__law_mixed [.obj 0, d] S = .ok (.lst (vs.map dW)) S' := by
  obtain ⟨out, S', h1, h2, h3⟩ := mixed_law S hS hd (pure_map fun w _ => dW_pure w) (fun out h => pure_lst h) (by rw [List.length_map]; exact hl)
  obtain ⟨vs, rfl⟩ := exists_map dW (l := out) fun x hx => by
    obtain ⟨w, _, e⟩ := List.mem_map.mp (h2.mem_iff.mp hx)
    exact ⟨w, e.symm⟩
  refine ⟨vs, S', h1, by have := h2.length_eq; simpa using this, fun w => ?_, h3⟩
  have key : ∀ l : List (List Int), dW w ∈ l.map dW ↔ w ∈ l := fun l => by
    rw [List.mem_map]
    exact ⟨fun ⟨x, hx, e⟩ => dW_inj e ▸ hx, fun h => ⟨w, h, rfl⟩⟩
  rw [← key vs, ← key ws]
  exact h2.mem_iff
/-- words of the same group -/
def Same (ws vs : List (List Int)) : Prop := (∀ E : FG.ES, Fd E → (∀ w ∈ ws, Wk E 0 w 0) → ∀ v ∈ vs, Wk E 0 v 0) ∧ ∀ E : FG.ES, Fd E → (∀ v ∈ vs, Wk E 0 v 0) → ∀ w ∈ ws, Wk E 0 w 0
theorem others_ok (n : Nat) (ws : List (List Int)) (hl : ws.length ≤ 1000) (hws : ∀ w ∈ ws, Let n w ∧ w.length ≤ 8) (S : Store) (hS : SrcS rest S) :
    ∃ (vs : List (List Int)) (S' : Store), SrcS rest S' ∧ (∀ w ∈ vs, Let n w ∧ w.length ≤ 32) ∧ vs.length ≤ ws.length + 3 ∧ Same ws vs ∧ F__law_others [.obj 0, .lst (ws.map dW)] S = .ok (.lst (vs.map dW)) S' := by
  obtain ⟨ms, S1, hS1, hml, hmm, em⟩ := mixed_words (d := .lst (ws.map dW)) S hS (fun _ _ => rfl) (by omega)
  have hms : ∀ w ∈ ms, Let n w ∧ w.length ≤ 8 := fun w hw => hws w ((hmm w).mp hw)
  obtain ⟨out, S2, ec, ⟨fs, rfl, hS2, hfs, hf1, hf2⟩, hlen⟩ := lcL_inv (enc := dW) (g := gN 3) (c := bYes) (el := (eCB F__law_of (aCons (eVar 0) (aCons (eLst FZ (aCons (eVar 3) (aCons (eCB F__law_undone (aCons (eVar 3) aNil)) aNil))) aNil)))) (env := [some (.obj 0), some (.lst (ws.map dW)), none, none]) ms (by omega)
    (fun pre acc S => ∃ fs : List (List Int), acc = fs.map dW ∧ SrcS rest S ∧ (∀ f ∈ fs, Let n f ∧ f.length ≤ 8) ∧ (∀ f ∈ fs, ∃ w ∈ pre, f = w ∨ f = inv w) ∧ ∀ w ∈ pre, ∃ f ∈ fs, w = f ∨ w = inv f)
    (fun pre w post acc S' hp _ hI => by
      obtain ⟨fs, rfl, hS', hfs, hf1, hf2⟩ := hI
      have hw : Let n w ∧ w.length ≤ 8 := hms w (by rw [hp]; simp)
      obtain ⟨x, S3, hS3, hx, eof⟩ := of_words (rest := rest) (d := .lst ([w, inv w].map dW)) (ws := [w, inv w]) S' hS' (fun _ _ => rfl) (by simp) (by simp)
      have hx' : x = w ∨ x = inv w := by simpa using hx
      refine ⟨[some (.obj 0), some (.lst (ws.map dW)), none, some (dW w)], dW x, S3, rfl, rfl, ?_, fs ++ [x], by rw [List.map_append]; rfl, hS3, fun f hf => ?_, fun f hf => ?_, fun v hv => ?_⟩
      · exact (cb2_ok rfl (lst2_ok rfl ((cb1_ok rfl).trans (und_ok w S' (by omega))))).trans eof
      · rcases List.mem_append.mp hf with hf | hf
        · exact hfs f hf
        · rw [List.mem_singleton.mp hf]
          rcases hx' with rfl | rfl
          · exact hw
          · exact ⟨inv_let hw.1, by rw [inv_len]; exact hw.2⟩
      · rcases List.mem_append.mp hf with hf | hf
        · obtain ⟨u, hu, h⟩ := hf1 f hf
          exact ⟨u, List.mem_append_left _ hu, h⟩
        · rw [List.mem_singleton.mp hf]
          exact ⟨w, List.mem_append_right _ (List.mem_singleton.mpr rfl), hx'⟩
      · rcases List.mem_append.mp hv with hv | hv
        · obtain ⟨f, hf, h⟩ := hf2 v hv
          exact ⟨f, List.mem_append_left _ hf, h⟩
        · rw [List.mem_singleton.mp hv]
          refine ⟨x, List.mem_append_right _ (List.mem_singleton.mpr rfl), ?_⟩
          rcases hx' with rfl | rfl
          · exact .inl rfl
          · exact .inr (inv_inv w).symm) ms [] [] S1 rfl rfl ⟨[], rfl, hS1, fun f hf => by simp at hf, fun f hf => by simp at hf, fun w hw => by simp at hw⟩
  rw [List.length_map] at hlen
  have hS3 : SrcS (rest ++ [.lst (fs.map dW)]) (S2 ++ [.lst (fs.map dW)]) := hS2.grow _
  have hlc : (eLc BX (srcV (eCB F__law_mixed (aCons (eVar 0) (aCons (eVar 1) aNil)))) (gN 3) [3] bYes (eCB F__law_of (aCons (eVar 0) (aCons (eLst FZ (aCons (eVar 3) (aCons (eCB F__law_undone (aCons (eVar 3) aNil)) aNil))) aNil)))) [some (.obj 0), some (.lst (ws.map dW)), none, none] S = .ok (.obj (rest.length + 2)) (S2 ++ [.lst (fs.map dW)]) := by
    have hsrc : srcV (eCB F__law_mixed (aCons (eVar 0) (aCons (eVar 1) aNil))) [some (.obj 0), some (.lst (ws.map dW)), none, none] S = .ok (ms.map dW) S1 := srcV_ok ((cb2_ok rfl rfl).trans em) rfl
    unfold eLc
    rw [hsrc, R.bind_ok]
    show (lcL _ _ _ [some (.obj 0), some (.lst (ws.map dW)), none, none] _ _ _).bind _ = _
    rw [ec, R.bind_ok, ← hS2.len]
    rfl
  -- products
  obtain ⟨gs, S4, x3, hS4, hgl, hgs, hg1, hg2, e4⟩ : ∃ (gs : List (List Int)) (S4 : Store) (x3 : Option D), SrcS (rest ++ [.lst (gs.map dW)]) S4 ∧ gs.length ≤ fs.length + 2 ∧ (∀ f ∈ gs, Let n f ∧ f.length ≤ 32) ∧ (∀ E : FG.ES, Fd E → (∀ w ∈ fs, Wk E 0 w 0) → ∀ v ∈ gs, Wk E 0 v 0) ∧ (∀ f ∈ fs, f ∈ gs) ∧
      sIf (bVal (e2 opNe (eVar 2) (eLst FZ aNil))) (sSeq (sExpr (eMt ckL mtAppend (eVar 2) (aCons (eCB F__law_net (aCons (e2 (opAdd FZ) (eCB F__law_of (aCons (eVar 0) (aCons (eVar 2) aNil))) (eCB F__law_of (aCons (eVar 0) (aCons (eVar 2) aNil)))) aNil)) aNil)))
    (sSeq (sExpr (eMt ckL mtAppend (eVar 2) (aCons (eCB F__law_net (aCons (e2 (opAdd FZ) (e2 (opAdd FZ) (e2 opIx (eVar 2) (eC (.int 0))) (eCB F__law_undone (aCons (e2 opIx (eVar 2) (e1 opNeg (eC (.int 1)))) aNil))) (e2 opIx (eVar 2) (eC (.int 0)))) aNil)) aNil)))
    sNil)) sNil [some (.obj 0), some (.lst (ws.map dW)), some (.obj (rest.length + 2)), none] (S2 ++ [.lst (fs.map dW)]) = .nx [some (.obj 0), some (.lst (ws.map dW)), some (.obj (rest.length + 2)), none] S4 := by
    have hcond : (bVal (e2 opNe (eVar 2) (eLst FZ aNil))) [some (.obj 0), some (.lst (ws.map dW)), some (.obj (rest.length + 2)), none] (S2 ++ [.lst (fs.map dW)]) = .ok (!fs.isEmpty) (S2 ++ [.lst (fs.map dW)]) := bval_ok ((e2_ok rfl (lst0 _ _)).trans (ne_obj hS3.at))
    cases q : fs with
    | nil =>
      rw [q] at hcond hS3
      refine ⟨[], S2 ++ [.lst []], none, hS3, by simp, fun f hf => by simp at hf, fun _ _ _ v hv => by simp at hv, fun f hf => by simp at hf, ?_⟩
      rw [if_no hcond]
      rfl
    | cons f0 fr =>
      rw [← q]
      have hne : fs ≠ [] := by rw [q]; simp
      have hb : (!fs.isEmpty) = true := by rw [q]; rfl
      rw [hb] at hcond
      obtain ⟨u, Sa, ha, hu, ea⟩ := of_words (d := .obj (rest.length + 2)) (S2 ++ [.lst (fs.map dW)]) hS3 (fun S' h => seq_obj h.at) hne (by omega)
      obtain ⟨v, Sb, hb', hv, eb⟩ := of_words (d := .obj (rest.length + 2)) Sa ha (fun S' h => seq_obj h.at) hne (by omega)
      have u8 := hfs u hu
      have v8 := hfs v hv
      have np := net_len (u ++ v)
      rw [List.length_append] at np
      have hS5 := hb'.put (.lst ((fs ++ [net (u ++ v)]).map dW))
      have hat5 := hS5.at
      have hg5 : ((fs ++ [net (u ++ v)]).map dW)[0]? = some (dW f0) := by rw [q]; rfl
      have f08 := hfs f0 (by rw [q]; exact List.mem_cons_self)
      have n2 := net_len ((f0 ++ inv (net (u ++ v))) ++ f0)
      rw [List.length_append, List.length_append, inv_len] at n2
      have hgg : ∀ x ∈ fs ++ [net (u ++ v)], Let n x ∧ x.length ≤ 16 := fun x hx => by
        rcases List.mem_append.mp hx with hx | hx
        · have := hfs x hx
          exact ⟨this.1, by omega⟩
        · rw [List.mem_singleton.mp hx]
          exact ⟨net_let (app_let u8.1 v8.1), by omega⟩
      -- the last of all
      generalize hp1 : net (u ++ v) = p1 at *
      have hix0 : ∀ S, S[rest.length + 2]? = some (D.lst ((fs ++ [p1]).map dW)) → (e2 opIx (eVar 2) (eC (.int 0))) [some (.obj 0), some (.lst (ws.map dW)), some (.obj (rest.length + 2)), none] S = .ok (dW f0) S := fun S h => (e2_ok rfl rfl).trans (opIx_ok (j := 0) (seq_obj h) hg5)
      have hlast : ∀ S, S[rest.length + 2]? = some (D.lst ((fs ++ [p1]).map dW)) → (e2 opIx (eVar 2) (e1 opNeg (eC (.int 1)))) [some (.obj 0), some (.lst (ws.map dW)), some (.obj (rest.length + 2)), none] S = .ok (dW p1) S := fun S h => by
        refine (e2_ok (b := .int (-1)) rfl rfl).trans ?_
        unfold opIx
        rw [seq_obj h]
        dsimp only
        have : L2.atI ((fs ++ [p1]).map dW) (-1) = some (dW p1) := by
          have hl : ((fs ++ [p1]).map dW).length = fs.length + 1 := by rw [List.length_map, List.length_append]; rfl
          have hi : L2.ixN (fs.length + 1) (-1) = some fs.length := by
            unfold L2.ixN
            rw [if_neg (by decide), if_pos (by omega)]
            congr 1
            omega
          unfold L2.atI
          rw [hl, hi, Option.bind_some, List.map_append, List.getElem?_append_right (by rw [List.length_map]; exact Nat.le_refl _), List.length_map, Nat.sub_self]
          rfl
        rw [this]
      have hS6 := hS5.put (.lst ((fs ++ [p1]).map dW ++ [dW (net ((f0 ++ inv p1) ++ f0))]))
      refine ⟨fs ++ [p1] ++ [net ((f0 ++ inv p1) ++ f0)], (List.set (List.set Sb (rest.length + 2) (D.lst ((fs ++ [p1]).map dW))) (rest.length + 2) (D.lst ((fs ++ [p1]).map dW ++ [dW (net ((f0 ++ inv p1) ++ f0))]))), none, ?_, by simp, fun x hx => ?_, fun E fE hE x hx => ?_, fun f hf => ?_, ?_⟩
      · have e : ((fs ++ [p1] ++ [net ((f0 ++ inv p1) ++ f0)]).map dW) = (fs ++ [p1]).map dW ++ [dW (net ((f0 ++ inv p1) ++ f0))] := by rw [List.map_append (l₁ := fs ++ [p1])]; rfl
        rw [e]
        exact hS6
      · rcases List.mem_append.mp hx with hx | hx
        · have := hgg x hx
          exact ⟨this.1, by omega⟩
        · rw [List.mem_singleton.mp hx]
          exact ⟨net_let (app_let (app_let f08.1 (inv_let (hgg p1 (by simp)).1)) f08.1), by omega⟩
      · have kp : Wk E 0 p1 0 := by
          rw [← hp1]
          exact net_wk fE ((hE u hu).app (hE v hv))
        have k0 := hE f0 (by rw [q]; exact List.mem_cons_self)
        rcases List.mem_append.mp hx with hx | hx
        · rcases List.mem_append.mp hx with hx | hx
          · exact hE x hx
          · rw [List.mem_singleton.mp hx]
            exact kp
        · rw [List.mem_singleton.mp hx]
          exact net_wk fE ((k0.app (inv_wk kp)).app k0)
      · exact List.mem_append_left _ (List.mem_append_left _ hf)
      · rw [if_yes hcond]
        refine sq_nx (env' := [some (.obj 0), some (.lst (ws.map dW)), some (.obj (rest.length + 2)), none]) (S' := Sb.set (rest.length + 2) (.lst ((fs ++ [p1]).map dW))) ?_ ?_
        · have hadd : (eCB F__law_net (aCons (e2 (opAdd FZ) (eCB F__law_of (aCons (eVar 0) (aCons (eVar 2) aNil))) (eCB F__law_of (aCons (eVar 0) (aCons (eVar 2) aNil)))) aNil)) [some (.obj 0), some (.lst (ws.map dW)), some (.obj (rest.length + 2)), none] (S2 ++ [.lst (fs.map dW)]) = .ok (dW p1) Sb := by
            rw [← hp1]
            exact (cb1_ok ((e2_ok ((cb2_ok rfl rfl).trans ea) ((cb2_ok rfl rfl).trans eb)).trans (add_W u v Sb (by omega)))).trans (net_law _ _ (by rw [List.length_append]; omega))
          have := app_st (f := eVar 2) (env := [some (.obj 0), some (.lst (ws.map dW)), some (.obj (rest.length + 2)), none]) rfl hS3.at hadd hb'.at (by rw [List.length_map]; exact Nat.lt_of_lt_of_le (by omega : fs.length < 200000) line_big)
          rw [this, List.map_append]
          rfl
        refine sq_nx ?_ rfl
        have h1 : (e2 (opAdd FZ) (e2 opIx (eVar 2) (eC (.int 0))) (eCB F__law_undone (aCons (e2 opIx (eVar 2) (e1 opNeg (eC (.int 1)))) aNil))) [some (.obj 0), some (.lst (ws.map dW)), some (.obj (rest.length + 2)), none] (Sb.set (rest.length + 2) (.lst ((fs ++ [p1]).map dW))) = .ok (dW (f0 ++ inv p1)) (Sb.set (rest.length + 2) (.lst ((fs ++ [p1]).map dW))) :=
          (e2_ok (hix0 _ hat5) ((cb1_ok (hlast _ hat5)).trans (und_ok p1 _ (by omega)))).trans (add_W _ _ _ (by rw [inv_len]; omega))
        have h2 : (eCB F__law_net (aCons (e2 (opAdd FZ) (e2 (opAdd FZ) (e2 opIx (eVar 2) (eC (.int 0))) (eCB F__law_undone (aCons (e2 opIx (eVar 2) (e1 opNeg (eC (.int 1)))) aNil))) (e2 opIx (eVar 2) (eC (.int 0)))) aNil)) [some (.obj 0), some (.lst (ws.map dW)), some (.obj (rest.length + 2)), none] (Sb.set (rest.length + 2) (.lst ((fs ++ [p1]).map dW))) = .ok (dW (net ((f0 ++ inv p1) ++ f0))) (Sb.set (rest.length + 2) (.lst ((fs ++ [p1]).map dW))) :=
          (cb1_ok ((e2_ok h1 (hix0 _ hat5)).trans (add_W _ _ _ (by rw [List.length_append, inv_len]; omega)))).trans (net_law _ _ (by rw [List.length_append, List.length_append, inv_len]; omega))
        exact app_st (f := eVar 2) (env := [some (.obj 0), some (.lst (ws.map dW)), some (.obj (rest.length + 2)), none]) rfl hat5 h2 hat5 (by rw [List.length_map, List.length_append]; exact Nat.lt_of_lt_of_le (by simp; omega : fs.length + [p1].length < 200000) line_big)
  -- the end
  have hadd : (e2 (opAdd FZ) (eVar 2) (eLst FZ (aCons (eTup aNil) aNil))) [some (.obj 0), some (.lst (ws.map dW)), some (.obj (rest.length + 2)), none] S4 = .ok (.lst ((gs ++ [[]]).map dW)) S4 := by
    have e0 : eTup aNil [some (.obj 0), some (.lst (ws.map dW)), some (.obj (rest.length + 2)), none] S4 = .ok (dW []) S4 := by
      simp only [eTup, aNil, R.bind_ok, List.length_nil]
      rw [if_pos (by decide : (0 : Nat) ≤ sizeLine)]
      rfl
    refine (e2_ok (a := .obj (rest.length + 2)) (S1 := S4) rfl (lst1_ok e0)).trans ?_
    have hc : conL S4 (.obj (rest.length + 2)) = some (gs.map dW) := con_obj hS4.at
    unfold opAdd
    simp only [hc]
    simp only [conL]
    rw [if_pos (by rw [List.length_map]; exact small_line (by simp; omega)), List.map_append]
    rfl
  obtain ⟨vs, S5, hS5, hvl, hvm, ev⟩ := mixed_words (d := .lst ((gs ++ [[]]).map dW)) S4 hS4 (fun _ _ => rfl) (by simp; omega)
  obtain ⟨S6, hS6, ecut⟩ := cut_grown hS hS5 (pure_lst (pure_map fun w (_ : w ∈ vs) => dW_pure w))
  refine ⟨vs, S6, hS6, fun w hw => ?_, by rw [hvl, List.length_append, List.length_singleton]; omega, ⟨fun E fE hE v hv => ?_, fun E fE hE w hw => ?_⟩, ?_⟩
  · rcases List.mem_append.mp ((hvm w).mp hw) with h | h
    · exact hgs w h
    · rw [List.mem_singleton.mp h]
      exact ⟨fun s hs => by simp at hs, by simp⟩
  · have hfE : ∀ f ∈ fs, Wk E 0 f 0 := fun f hf => by
      obtain ⟨w, hw, h⟩ := hf1 f hf
      have := hE w ((hmm w).mp hw)
      rcases h with rfl | rfl
      · exact this
      · exact inv_wk this
    rcases List.mem_append.mp ((hvm v).mp hv) with h | h
    · exact hg1 E fE hfE v h
    · rw [List.mem_singleton.mp h]
      exact rfl
  · obtain ⟨f, hf, h⟩ := hf2 w ((hmm w).mpr hw)
    have := hE f ((hvm f).mpr (List.mem_append_left _ (hg2 f hf)))
    rcases h with rfl | rfl
    · exact this
    · exact inv_wk this
  · have hrun : defF 2 4 u__law_others [.obj 0, .lst (ws.map dW)] S = .ok (.lst (vs.map dW)) S5 := by
      refine fn_run rfl ?_
      unfold u__law_others
      refine sq_nx (env' := [some (.obj 0), some (.lst (ws.map dW)), some (.obj (rest.length + 2)), none]) (S' := S2 ++ [D.lst (fs.map dW)]) (show sSet 2 _ [some (.obj 0), some (.lst (ws.map dW)), none, none] S = _ from set_ok hlc) ?_
      refine sq_nx e4 ?_
      exact sq_rt (ret_ok ((cb2_ok rfl hadd).trans ev))
    unfold F__law_others cutF
    rw [hrun]
    exact ecut
end
end K48
set_option Elab.async false
set_option linter.all false
set_option maxRecDepth 100000
set_option maxHeartbeats 1000000
namespace K48
open PySem PySem.Spec PySem.W PyProof.Rows L2 Hx
open FG (E3 eS Cp St Fd Rd Wk Let Hm Qt Rch Cn rose places signs stage gr tos rdG)
/-- what folding the rose of some words comes to -/
structure Done (n N : Nat) (ws : List (List Int)) (fin : List E3) : Prop where
  q : Qt (eS (rose 1 ws)) (eS fin)
  f : Fd (eS fin)
  p : PlOk N n fin
  n0 : 0 < N
  lt : ∀ w ∈ ws, Let n w
section
variable {n N N' : Nat} {ws ws' : List (List Int)} {fin fin' : List E3}
theorem Done.rd (h : Done n N ws fin) : Rd (eS fin) (onL' fin) := rd_on (fun e he => (h.p.act e he).1) h.f
theorem Done.few (h : Done n N ws fin) : ∀ k, (stage (signs n) (onL' fin) k).length ≤ N := stage_few h.p h.n0 h.rd (signs n)
theorem Done.far (h : Done n N ws fin) {k : Nat} (hk : N ≤ k) : stage (signs n) (onL' fin) k = stage (signs n) (onL' fin) N := FG.stage_end (h.few N) k hk
theorem Done.same (h : Done n N ws fin) (h' : Done n N' ws' fin') {g g' : Int → Int} (m : Hm (eS fin) (eS fin') g) (m' : Hm (eS fin') (eS fin) g') : gOf n N fin = gOf n N' fin' := by
  unfold gOf
  rw [← h.far (Nat.le_max_left N N'), ← h'.far (Nat.le_max_right N N')]
  exact (FG.gr_one m m' h.f h.rd h'.rd n (signs n) _).symm
theorem Done.one (h : Done n N ws fin) (h' : Done n N ws fin') : gOf n N fin = gOf n N fin' := by
  obtain ⟨g, m⟩ := h.q.two h'.q h'.f
  obtain ⟨g', m'⟩ := h'.q.two h.q h.f
  exact h.same h' m m'
theorem Done.alike (h : Done n N ws fin) (h' : Done n N' ws' fin') (s : Same ws ws') : gOf n N fin = gOf n N' fin' := by
  obtain ⟨g, m⟩ := FG.same_maps h.lt h.q h'.q h'.f (s.2 _ h'.f) h'.lt
  obtain ⟨g', m'⟩ := FG.same_maps h'.lt h'.q h.q h.f (s.1 _ h.f) h.lt
  exact h.same h' m m'
theorem Done.full (h : Done n N ws fin) : Full n (onL' fin) (stage (signs n) (onL' fin) N) := fun p hp s hs q hq => FG.stage_full (h.few N) hp hs hq
theorem Done.ok (h : Done n N ws fin) : GOk n (gOf n N fin) := gr_ok h.full
theorem Done.len (h : Done n N ws fin) : (gOf n N fin).length = (stage (signs n) (onL' fin) N).length := FG.gr_length
theorem Done.pos (h : Done n N ws fin) : 0 < (gOf n N fin).length := by
  obtain ⟨r, e⟩ := FG.stage_zero (sg := signs n) (on := onL' fin) N
  rw [h.len, e]
  exact Nat.succ_pos _
theorem Done.le (h : Done n N ws fin) : (gOf n N fin).length ≤ N := by
  rw [h.len]
  exact h.few N
theorem Done.cn (h : Done n N ws fin) : Cn (eS fin) := h.q.cn (FG.rose_cn 1 h.lt)
theorem Done.line (h : Done n N ws fin) {p : Int} (hp : Rch (eS fin) p) : p ∈ stage (signs n) (onL' fin) N := by
  obtain ⟨w, hw⟩ := hp
  have h0 : (0 : Int) ∈ stage (signs n) (onL' fin) N := by
    obtain ⟨r, e⟩ := FG.stage_zero (sg := signs n) (on := onL' fin) N
    rw [e]
    exact List.mem_cons_self
  have key : ∀ (w : List Int) (a : Int), a ∈ stage (signs n) (onL' fin) N → Wk (eS fin) a w p → p ∈ stage (signs n) (onL' fin) N := by
    intro w
    induction w with
    | nil => intro a ha e; cases e; exact ha
    | cons s w ih =>
      intro a ha ⟨t, h1, h2⟩
      have hs : s ∈ signs n := by
        rcases h1 with ⟨k1, k2⟩ | ⟨k1, k2⟩
        · have := h.p.act _ k2
          exact FG.mem_signs.mpr ⟨by omega, by have : s ≤ n := this.2; omega⟩
        · have := h.p.act _ k2
          exact FG.mem_signs.mpr ⟨by omega, by have : -s ≤ n := this.2; omega⟩
      exact ih t (h.full a ha s hs t ((h.rd _ _ _).mpr h1)) h2
  exact key w 0 h0 hw
theorem Done.edges (h : Done n N ws fin) : ∀ p a q, eS fin p a q → p ∈ stage (signs n) (onL' fin) N ∧ q ∈ stage (signs n) (onL' fin) N ∧ 0 < a ∧ a ≤ (n : Int) := fun p a q e =>
  ⟨h.line (h.cn p a q e).1, h.line (h.cn p a q e).2, (h.p.act _ e).1, (h.p.act _ e).2⟩
theorem Done.count (h : Done n N ws fin) (hn : fin.Nodup) : fin.length = tos (gOf n N fin) := (FG.count_tos h.rd (FG.stage_nodup N) h.edges hn (fun e => Iff.rfl)).1
theorem whole_all (G : List FG.Row) : whole G = true ↔ ∀ row ∈ G, ∀ b ∈ row, b.1.isSome = true ∧ b.2.isSome = true := by
  unfold whole
  rw [List.all_eq_true]
  constructor
  · intro h row hr b hb
    have := List.all_eq_true.mp (h row hr) b hb
    rwa [Bool.and_eq_true] at this
  · intro h row hr
    rw [List.all_eq_true]
    intro b hb
    rw [Bool.and_eq_true]
    exact h row hr b hb
theorem Done.whole (h : Done n N ws fin) (hn : fin.Nodup) : whole (gOf n N fin) = decide (fin.length = n * (gOf n N fin).length) := by
  have := FG.whole_iff h.rd (FG.stage_nodup N) h.edges hn (fun e => Iff.rfl)
  rw [Bool.eq_iff_iff, whole_all, decide_eq_true_eq, h.len]
  exact this.symm
/-- the words are read from home back to home -/
theorem Done.closed (h : Done n N ws fin) {w : List Int} (hw : w ∈ ws) : Wk (eS fin) 0 w 0 := by
  obtain ⟨g, m, _⟩ := h.q.to
  have := m.wk (FG.rose_wk 1 h.lt hw)
  rwa [m.zero] at this
theorem Done.reads (h : Done n N ws fin) {w : List Int} (hw : Wk (eS fin) 0 w 0) : rdG (gOf n N fin) 0 w = some 0 := by
  obtain ⟨r, e⟩ := FG.stage_zero (sg := signs n) (on := onL' fin) N
  have h0 : (stage (signs n) (onL' fin) N)[0]? = some 0 := by rw [e]; rfl
  have h1 : (stage (signs n) (onL' fin) N).idxOf 0 = 0 := by rw [e]; simp
  have := FG.rd_gr h.rd h.edges w 0 0 0 h0 h1 hw
  rw [h1] at this
  exact this
end
theorem Run.done {n N : Nat} {ws fs : List (List Int)} {es fin : List E3} (r : Run es fs fin) (hes : ∀ e, e ∈ es ↔ e ∈ rose 1 ws) (hw : ∀ w ∈ ws, Let n w) (hN : places 1 ws = (N : Int)) : Done n N ws fin := by
  have hp := rose_pl hN hw
  have hp2 : PlOk N n es := ⟨fun e he => hp.act e ((hes e).mp he), fun e he => hp.pl e ((hes e).mp he)⟩
  have e : eS es = eS (rose 1 ws) := by
    funext p a q
    exact propext (hes (p, a, q))
  obtain ⟨q1, q2, q3, _, _⟩ := r.qt hp2
  rw [e] at q1
  exact ⟨q1, q2, q3, by have := places_pos ws; omega, hw⟩
/-- how many places there are -/
theorem places_le_len : ∀ (ws : List (List Int)) (m : Int) (k : Nat), (∀ w ∈ ws, w.length ≤ k + 1) → places m ws ≤ m + ((ws.length * k : Nat) : Int)
  | [], m, k, _ => by show m ≤ _; simp
  | w :: ws, m, k, h => by
    have ih := places_le_len ws (m + ((w.length - 1 : Nat) : Int)) k fun v hv => h v (List.mem_cons_of_mem _ hv)
    have hw := h w List.mem_cons_self
    show places (m + ((w.length - 1 : Nat) : Int)) ws ≤ _
    rw [List.length_cons, Nat.add_mul]
    omega
theorem lenAll_le : ∀ (ws : List (List Int)) (k : Nat), (∀ w ∈ ws, w.length ≤ k) → lenAll ws ≤ ws.length * k
  | [], k, _ => Nat.zero_le _
  | w :: ws, k, h => by
    have ih := lenAll_le ws k fun v hv => h v (List.mem_cons_of_mem _ hv)
    have hw := h w List.mem_cons_self
    have : lenAll (w :: ws) = w.length + lenAll ws := rfl
    rw [this, List.length_cons, Nat.add_mul]
    omega
end K48
set_option Elab.async false
set_option linter.all false
set_option maxRecDepth 100000
set_option maxHeartbeats 1000000
namespace K48
open PySem PySem.Spec PySem.W PyProof.Rows L2 Hx
open FG (E3 eS Cp St Fd Rd Wk Let Hm Qt Rch Cn rose places signs stage gr tos rdG)
theorem int_shown2 : ((List.range 2001).all fun k => decide ((PyData.shown (.int (-(k : Int)))).length ≤ 10)) = true := by decide +kernel
theorem Sh.any (i : Int) (h : -2000 ≤ i ∧ i ≤ 2000) : Sh (.int i) 0 10 := by
  by_cases z : 0 ≤ i
  · exact Sh.int i z h.2
  · refine ⟨?_, by simp [PyData.hasDict], by simp [PyData.depth], ?_⟩
    · have := (Sh.nat i.natAbs (by omega)).sh
      rw [PyData.showable, decide_eq_true_eq] at this ⊢
      rw [Int.natAbs_natCast] at this
      exact this
    · have := List.all_eq_true.mp int_shown2 i.natAbs (List.mem_range.mpr (by omega))
      have e : -((i.natAbs : Nat) : Int) = i := by omega
      have := of_decide_eq_true this
      rwa [e] at this
theorem neI (a b : Int) (S : Store) : opNe (.int a) (.int b) S = .ok (.bl (!decide (a = b))) S := rfl
theorem toPy_lst {S : Store} {ds : List D} {ps : List PyData} (h : ∀ g, pyL g ds = some ps) : toPy S (.lst ds) = some (.list ps) := by
  unfold toPy
  rw [pyG, h]
  rfl
theorem toPy_tup {S : Store} {ds : List D} {ps : List PyData} (h : ∀ g, pyL g ds = some ps) : toPy S (.tup ds) = some (.tuple ps) := by
  unfold toPy
  rw [pyG, h]
  rfl
theorem toPy_obj {S : Store} {i : Nat} {ds : List D} {ps : List PyData} (hs : S[i]? = some (.lst ds)) (h : ∀ g, pyL g ds = some ps) : toPy S (.obj i) = some (.list ps) := by
  unfold toPy
  rw [pyG]
  show pyO S 3 i = _
  unfold pyO
  rw [hs]
  dsimp only
  rw [h]
  rfl
theorem pyG_words (g : Nat → Option PyData) (l : List (List Int)) : pyG g (.tup (l.map dW)) = some (.tuple (l.map pyW)) := by
  simp only [pyG, pyL_words, Option.map_some]
theorem sh_W {w : List Int} {N : Nat} (h : ∃ a b : Int, w = [a, b] ∧ 0 ≤ a ∧ a < N ∧ 0 ≤ b ∧ b < N) (hN : N ≤ 1000) : Sh (pyW w) 1 27 := by
  obtain ⟨a, b, rfl, h1, h2, h3, h4⟩ := h
  refine Sh.tup (d := 0) (l := 10) (ps := [.int a, .int b]) fun p hp => ?_
  simp only [List.mem_cons, List.not_mem_nil, or_false] at hp
  rcases hp with rfl | rfl
  · exact Sh.int a h1 (by omega)
  · exact Sh.int b h3 (by omega)
theorem shows_due {n N : Nat} {ws fs : List (List Int)} {fin : List E3} (h : Done n N ws fin) (hn : n ≤ 100) (hN : N ≤ 300) (hl : fs.length ≤ N) (hf : ∀ w ∈ fs, ∃ a b : Int, w = [a, b] ∧ 0 ≤ a ∧ a < N ∧ 0 ≤ b ∧ b < N) :
    shows (.tuple [pyGr (gOf n N fin), .tuple (fs.map pyW)]) = true := by
  have hG := h.le
  refine shows_of (Sh.tup (d := 3) (l := 1000000) (ps := [pyGr (gOf n N fin), .tuple (fs.map pyW)]) fun p hp => ?_) (by decide) (Nat.le_trans (by simp : _ ≤ 3000000) (by decide))
  simp only [List.mem_cons, List.not_mem_nil, or_false] at hp
  rcases hp with rfl | rfl
  · exact (sh_G h.ok hn (by omega)).weak (Nat.le_refl _) (by omega)
  · refine (Sh.tup (d := 1) (l := 27) fun p hp => ?_).weak (by decide) (by rw [List.length_map]; omega)
    obtain ⟨w, hw, rfl⟩ := List.mem_map.mp hp
    exact sh_W (hf w hw) (by omega)
section
variable {rest : Store}
theorem scope_src {f : SS} {env env' : Ev} {S S' : Store} {xs : List D} (h : SrcS rest S) (h' : SrcS (rest ++ [.lst xs]) S') (e : f env S = .nx env' S') : ∃ S2, SrcS rest S2 ∧ sScope f env S = .nx (cutE S.length S' env') S2 := by
  obtain ⟨l, m, t, c, _, rfl⟩ := h
  obtain ⟨l', m', t', c', hc, rfl⟩ := h'
  refine ⟨sS rest l' m' t' c', ⟨l', m', t', c', hc, rfl⟩, ?_⟩
  unfold sScope
  rw [e]
  unfold Hx.cutS
  dsimp only
  rw [if_pos (okS_grown l m t l' m' t' c c' [.lst xs])]
  have : (sS (rest ++ [.lst xs]) l' m' t' c').take (sS rest l m t c).length = sS rest l' m' t' c' := by
    have e : sS (rest ++ [.lst xs]) l' m' t' c' = sS rest l' m' t' c' ++ [.lst xs] := rfl
    have hl : (sS rest l m t c).length = (sS rest l' m' t' c').length := by simp [sS]
    rw [e, hl, List.take_left]
  rw [this]
end
/-! the law's loops -/
abbrev EV (ns : List Int) (n : Nat) (ws : List (List Int)) (res : List E3) (N : Nat) (fin : List E3) (fs : List (List Int)) (G : List FG.Row) (x9 x10 x11 x12 x13 x14 x15 x16 : Option D) : Ev :=
  [some (.scr ns), some (.obj 0), some (.int (n : Int)), some (.lst (ws.map dW)), some (.lst (res.map eE)), some (.int (N : Int)), some (.lst (fin.map eE)), some (.tup (fs.map dW)), some (dG G), x9, x10, x11, x12, x13, x14, x15, x16]
def turnB : SS := (sSeq (sSet 10 (eCB (biTuple) (aCons (eCB F__law_others (aCons (eVar 1) (aCons (eVar 3) aNil))) aNil)))
    (sSeq (sIf (bVal (e2 opNe (eCB (biRepr) (aCons (e2 opIx (eCB F_folded_graph (aCons (eVar 2) (aCons (eVar 10) aNil))) (eC (.int 0))) aNil)) (eCB (biRepr) (aCons (eVar 8) aNil)))) (sSeq (sRet (eC (.bl false)))
    sNil) sNil)
    sNil))
def membB : SS := (sSeq (sExpr (eMt ckL mtAppend (eVar 14) (aCons (eCB F__law_net (aCons (e2 (opAdd FZ) (eCB F__law_of (aCons (eVar 1) (aCons (eVar 14) aNil))) (eCB F__law_undone (aCons (eCB F__law_of (aCons (eVar 1) (aCons (eVar 14) aNil))) aNil))) aNil)) aNil)))
    sNil)
def readB : SS := (sSeq (sSet 16 (eCB F__law_pick (aCons (eVar 1) (aCons (eCB (biLen) (aCons (eVar 8) aNil)) aNil))))
    (sSeq (sSet 12 (eLst BX (aCons (eCB F_is_member (aCons (eVar 8) (aCons (eVar 15) aNil))) (aCons (eCB F_read_row (aCons (eVar 8) (aCons (eC (.int 0)) (aCons (eVar 15) aNil)))) (aCons (eCB F_read_row (aCons (eVar 8) (aCons (eVar 16) (aCons (eVar 15) aNil)))) aNil)))))
    (sSeq (sIf (bVal (e2 opNe (eCB (biRepr) (aCons (eVar 12) aNil)) (eCB (biRepr) (aCons (eLst FZ (aCons (e2 opEq (eCB F__law_read (aCons (eVar 8) (aCons (eC (.int 0)) (aCons (eVar 15) aNil)))) (eC (.int 0))) (aCons (eCB F__law_read (aCons (eVar 8) (aCons (eC (.int 0)) (aCons (eVar 15) aNil)))) (aCons (eCB F__law_read (aCons (eVar 8) (aCons (eVar 16) (aCons (eVar 15) aNil)))) aNil)))) aNil)))) (sSeq (sRet (eC (.bl false)))
    sNil) sNil)
    sNil)))
section
variable {ns : List Int} {n N : Nat} {ws fs : List (List Int)} {res fin : List E3} {x9 x10 x11 x12 x13 x14 x15 x16 : Option D} {rest : Store}
theorem turnB_ok (hn : n ≤ 100) (h : Done n N ws fin) (hN : N ≤ 300) (hwl : ws.length ≤ 4) (hws : ∀ w ∈ ws, Let n w ∧ w.length ≤ 8) (S : Store) (hS : SrcS rest S) :
    ∃ x10' S', SrcS rest S' ∧ turnB (EV ns n ws res N fin fs (gOf n N fin) x9 x10 x11 x12 x13 x14 x15 x16) S = .nx (EV ns n ws res N fin fs (gOf n N fin) x9 x10' x11 x12 x13 x14 x15 x16) S' := by
  obtain ⟨vs, S1, hS1, hvs, hvl, same, eo⟩ := others_ok n ws (by omega) hws S hS
  have hp := places_le_len vs 1 31 fun w hw => (hvs w hw).2
  have hp0 := places_pos vs
  have hla := lenAll_le vs 32 fun w hw => (hvs w hw).2
  have hvv : vs.length * 31 ≤ 7 * 31 := Nat.mul_le_mul_right _ (by omega)
  have hvv2 : vs.length * 32 ≤ 7 * 32 := Nat.mul_le_mul_right _ (by omega)
  obtain ⟨N', hN'⟩ : ∃ N' : Nat, places 1 vs = (N' : Int) := ⟨(places 1 vs).toNat, by omega⟩
  obtain ⟨fs', fin', r', run⟩ := folded_graph_ok n hn vs (fun w hw => (hvs w hw).1) N' hN' (by omega) (by omega) (.tup (vs.map dW)) rfl S1
  have h' := r'.done (fun e => Iff.rfl) (fun w hw => (hvs w hw).1) hN'
  have hG : gOf n N fin = gOf n N' fin' := h.alike h' same
  refine ⟨some (.tup (vs.map dW)), S1, hS1, ?_⟩
  unfold turnB
  refine sq_nx (env' := EV ns n ws res N fin fs (gOf n N fin) x9 (some (.tup (vs.map dW))) x11 x12 x13 x14 x15 x16) (S' := S1) ?_ ?_
  · exact set_ok ((cb1_ok ((cb2_ok rfl rfl).trans eo)).trans rfl)
  refine sq_nx ((if_no ?_).trans rfl) rfl
  have hle := h.le
  refine alike_no (S1 := S1) (S2 := S1) (x := dG (gOf n N fin)) (y := dG (gOf n N fin)) (p := pyGr (gOf n N fin)) ?_ rfl (toPy_G _ _) (toPy_G _ _) rfl rfl (shows_G h.ok hn (by omega))
  refine (e2_ok ((cb2_ok rfl rfl).trans run) rfl).trans ?_
  rw [hG]
  exact opIx_ok (j := 0) rfl rfl
theorem membB_ok (h : Done n N ws fin) (ms : List (List Int)) (hml : ms.length ≤ 100) (hm : ms ≠ []) (hms : ∀ w ∈ ms, Let n w ∧ w.length ≤ 1000 ∧ Wk (eS fin) 0 w 0) (hlen : ∀ w ∈ ms, w.length ≤ 1000) (S : Store) (hS : SrcS (rest ++ [.lst (ms.map dW)]) S) (G : List FG.Row) :
    ∃ u v S', u ∈ ms ∧ v ∈ ms ∧ SrcS (rest ++ [.lst ((ms ++ [net (u ++ inv v)]).map dW)]) S' ∧ membB (EV ns n ws res N fin fs G x9 x10 x11 x12 x13 (some (.obj (rest.length + 2))) x15 x16) S = .nx (EV ns n ws res N fin fs G x9 x10 x11 x12 x13 (some (.obj (rest.length + 2))) x15 x16) S' := by
  obtain ⟨u, Sa, ha, hu, ea⟩ := of_words (d := .obj (rest.length + 2)) S hS (fun S' h => seq_obj h.at) hm (by omega)
  obtain ⟨v, Sb, hb, hv, eb⟩ := of_words (d := .obj (rest.length + 2)) Sa ha (fun S' h => seq_obj h.at) hm (by omega)
  have hu' := hlen u hu
  have hv' := hlen v hv
  refine ⟨u, v, Sb.set (rest.length + 2) (.lst (ms.map dW ++ [dW (net (u ++ inv v))])), hu, hv, ?_, ?_⟩
  · rw [List.map_append]
    exact hb.put _
  · unfold membB
    refine sq_nx ?_ rfl
    have h1 : (eCB F__law_net (aCons (e2 (opAdd FZ) (eCB F__law_of (aCons (eVar 1) (aCons (eVar 14) aNil))) (eCB F__law_undone (aCons (eCB F__law_of (aCons (eVar 1) (aCons (eVar 14) aNil))) aNil))) aNil)) (EV ns n ws res N fin fs G x9 x10 x11 x12 x13 (some (.obj (rest.length + 2))) x15 x16) S = .ok (dW (net (u ++ inv v))) Sb :=
      (cb1_ok ((e2_ok ((cb2_ok rfl rfl).trans ea) ((cb1_ok ((cb2_ok rfl rfl).trans eb)).trans (und_ok v Sb (by omega)))).trans (add_W u (inv v) Sb (by rw [inv_len]; omega)))).trans (net_law _ _ (by rw [List.length_append, inv_len]; omega))
    exact app_st (f := eVar 14) rfl hS.at h1 hb.at (by rw [List.length_map]; exact Nat.lt_of_lt_of_le (by omega : ms.length < 200000) line_big)
theorem readB_ok (h : Done n N ws fin) (hn : n ≤ 100) (hN : N ≤ 300) (w : List Int) (hw : Let n w) (S : Store) (hS : SrcS rest S) :
    ∃ T x12' x16' S', SrcS T S' ∧ readB (EV ns n ws res N fin fs (gOf n N fin) x9 x10 x11 x12 x13 x14 (some (dW w)) x16) S = .nx (EV ns n ws res N fin fs (gOf n N fin) x9 x10 x11 x12' x13 x14 (some (dW w)) x16') S' := by
  have hle := h.le
  have hpos := h.pos
  obtain ⟨r, S1, hS1, ep, hr⟩ := pick_of (gOf n N fin).length S hS (by omega)
  have hrl : r < (gOf n N fin).length := by omega
  have hlen : (eCB (biLen) (aCons (eVar 8) aNil)) (EV ns n ws res N fin fs (gOf n N fin) x9 x10 x11 x12 x13 x14 (some (dW w)) x16) S = .ok (.int ((gOf n N fin).length : Int)) S := by
    refine (cb1_ok rfl).trans ?_
    rw [len_ok (ds := (gOf n N fin).map dR) rfl, List.length_map]
  have hbd : ∀ (p : Nat), p < (gOf n N fin).length → ∀ k, rdG (gOf n N fin) p w = some k → k ≤ 2000 := fun p hp k hk => by
    have := rdG_lt h.ok w p k hp hk
    omega
  generalize hG : gOf n N fin = G at *
  have hok : GOk n G := hG ▸ h.ok
  refine ⟨rest ++ [.lst [.bl (decide (rdG G 0 w = some 0)), oN (rdG G 0 w), oN (rdG G r w)]], some (.obj S1.length), some (.int (r : Int)), S1 ++ [.lst [.bl (decide (rdG G 0 w = some 0)), oN (rdG G 0 w), oN (rdG G r w)]], hS1.grow _, ?_⟩
  unfold readB
  refine sq_nx (env' := EV ns n ws res N fin fs G x9 x10 x11 x12 x13 x14 (some (dW w)) (some (.int (r : Int)))) (S' := S1) (set_ok ((cb2_ok rfl hlen).trans ep)) ?_
  refine sq_nx (env' := EV ns n ws res N fin fs G x9 x10 x11 (some (.obj S1.length)) x13 x14 (some (dW w)) (some (.int (r : Int)))) (S' := S1 ++ [.lst [.bl (decide (rdG G 0 w = some 0)), oN (rdG G 0 w), oN (rdG G r w)]]) ?_ ?_
  · exact set_ok (lst3_ok ((cb2_ok rfl rfl).trans (is_member_ok hok hpos hw S1)) ((cb3_ok rfl rfl rfl).trans (read_row_ok hok (p := 0) hpos hw S1)) ((cb3_ok rfl rfl rfl).trans (read_row_ok hok hrl hw S1)))
  generalize hS2 : S1 ++ [D.lst [.bl (decide (rdG G 0 w = some 0)), oN (rdG G 0 w), oN (rdG G r w)]] = S2
  have hat : S2[S1.length]? = some (.lst [.bl (decide (rdG G 0 w = some 0)), oN (rdG G 0 w), oN (rdG G r w)]) := by rw [← hS2]; exact get_new _ _
  have hpy : ∀ g, pyL g [.bl (decide (rdG G 0 w = some 0)), oN (rdG G 0 w), oN (rdG G r w)] = some [.bool (decide (rdG G 0 w = some 0)), pyN (rdG G 0 w), pyN (rdG G r w)] := fun g => by
    simp only [pyL, pyG_N]
    simp [pyG]
  refine sq_nx ((if_no ?_).trans rfl) rfl
  refine alike_no (S1 := S2) (S2 := S2) (x := .obj S1.length) (y := .lst [.bl (decide (rdG G 0 w = some 0)), oN (rdG G 0 w), oN (rdG G r w)]) rfl ?_ (toPy_obj hat hpy) (toPy_lst hpy) rfl rfl ?_
  · exact lst3_ok ((e2_ok ((cb3_ok rfl rfl rfl).trans (law_read_ok hok (p := 0) hpos hw S2)) rfl).trans (eq_oN _ S2)) ((cb3_ok rfl rfl rfl).trans (law_read_ok hok (p := 0) hpos hw S2)) ((cb3_ok rfl rfl rfl).trans (law_read_ok hok hrl hw S2))
  · refine shows_of (Sh.lst (d := 0) (l := 10) fun p hp => ?_) (by decide) (Nat.le_trans (by simp : _ ≤ 100) (by decide))
    simp only [List.mem_cons, List.not_mem_nil, or_false] at hp
    rcases hp with rfl | rfl | rfl
    · exact (Sh.bool _).weak (Nat.le_refl _) (by decide)
    · exact sh_N (hbd 0 hpos)
    · exact sh_N (hbd r hrl)
end
end K48
set_option Elab.async false
set_option linter.all false
set_option maxRecDepth 100000
set_option maxHeartbeats 2000000
namespace K48
open PySem PySem.Spec PySem.W PyProof.Rows L2 Hx
open FG (E3 eS Cp St Fd Rd Wk Let Hm Qt Rch Cn rose places signs stage gr tos rdG)
/-- the last test -/
def lastB : SS := (sSeq (sIf (bVal (e2 opGt (eCB F__law_pick (aCons (eVar 1) (aCons (eC (.int 12)) aNil))) (eC (.int 0)))) (sSeq (sRet (eC (.bl true)))
    sNil) sNil)
    sNil)
theorem last_ok {ns : List Int} {n N : Nat} {ws fs : List (List Int)} {res fin : List E3} {G : List FG.Row} {x9 x10 x11 x12 x13 x14 x15 x16 : Option D} {rest : Store} (S : Store) (hS : SrcS rest S) :
    (∃ S', lastB (EV ns n ws res N fin fs G x9 x10 x11 x12 x13 x14 x15 x16) S = .rt (.bl true) S') ∨ ∃ env S', env.length = 17 ∧ lastB (EV ns n ws res N fin fs G x9 x10 x11 x12 x13 x14 x15 x16) S = .nx env S' := by
  obtain ⟨r, S1, hS1, ep, _⟩ := pick_of 12 S hS (by decide)
  have hb : (bVal (e2 opGt (eCB F__law_pick (aCons (eVar 1) (aCons (eC (.int 12)) aNil))) (eC (.int 0)))) (EV ns n ws res N fin fs G x9 x10 x11 x12 x13 x14 x15 x16) S = .ok (decide ((0 : Int) < (r : Int))) S1 := bval_ok ((e2_ok ((cb2_ok rfl rfl).trans ep) rfl).trans rfl)
  unfold lastB
  by_cases q : (0 : Int) < (r : Int)
  · rw [decide_eq_true q] at hb
    exact .inl ⟨S1, sq_rt ((if_yes hb).trans rfl)⟩
  · rw [decide_eq_false q] at hb
    exact .inr ⟨_, S1, rfl, sq_nx ((if_no hb).trans rfl) rfl⟩
theorem law_true (ns : List Int) (h : ns.length ≤ 63) : (∃ S, u_law (some (.scr ns) :: List.replicate 16 none) [] = .rt (.bl true) S) ∨ ∃ env S, env.length = 17 ∧ u_law (some (.scr ns) :: List.replicate 16 none) [] = .nx env S := by
  -- the source, the acts, the doings
  obtain ⟨s0, s1, ⟨cells, left, mixed, turn, hc, rfl, rfl⟩, esrc⟩ := source_law ns (by omega)
  have hS0 : SrcS [] [D.dK [(.inr "cells", .obj 1), (.inr "left", .int left), (.inr "mixed", .int mixed), (.inr "turn", .int turn)], D.lst (cells.map .int)] := ⟨left, mixed, turn, cells, hc, rfl⟩
  generalize [D.dK [(.inr "cells", .obj 1), (.inr "left", .int left), (.inr "mixed", .int mixed), (.inr "turn", .int turn)], D.lst (cells.map .int)] = S0 at esrc hS0
  obtain ⟨r3, S1, hS1, ep3, hr3⟩ := pick_of 3 S0 hS0 (by decide)
  obtain ⟨n, hn⟩ : ∃ n : Nat, n = 1 + r3 := ⟨_, rfl⟩
  have hn1 : 1 ≤ n ∧ n ≤ 100 := by omega
  obtain ⟨ws, S2, hS2, hws, hwl, eds⟩ := doings_ok n hn1 S1 hS1
  have hlet : ∀ w ∈ ws, Let n w := fun w hw => (hws w hw).1
  -- the rose, folded, its graph
  have hp7 := places_le_len ws 1 7 fun w hw => (hws w hw).2
  have hp0 := places_pos ws
  have hla := lenAll_le ws 8 fun w hw => (hws w hw).2
  have hv7 : ws.length * 7 ≤ 4 * 7 := Nat.mul_le_mul_right _ hwl
  have hv8 : ws.length * 8 ≤ 4 * 8 := Nat.mul_le_mul_right _ hwl
  obtain ⟨N, hN⟩ : ∃ N : Nat, places 1 ws = (N : Int) := ⟨(places 1 ws).toNat, by omega⟩
  obtain ⟨res, hrn, hrm, ero⟩ := law_rose_ok (.lst (ws.map dW)) ws rfl (by omega) S2
  have hplr := rose_pl hN hlet
  have hpl : PlOk N n res := ⟨fun e he => hplr.act e ((hrm e).mp he), fun e he => hplr.pl e ((hrm e).mp he)⟩
  have hrl : res.length ≤ 1000 := by
    have := FG.nodup_le hrn (m := rose 1 ws) fun x hx => (hrm x).mp hx
    rw [rose_len] at this
    omega
  obtain ⟨fs, fin, run, hfn, hfl, efo⟩ := law_folded_told (.obj 0) res N n hpl hrn hrl (by omega) S2
  have hD : Done n N ws fin := run.done hrm hlet hN
  obtain ⟨_, _, _, hfsl, hfs⟩ := run.qt hpl
  have hmsr := FG.msr_le N res
  have egr : F__law_graph [.int (n : Int), .lst (fin.map eE)] S2 = .ok (dG (gOf n N fin)) S2 := law_graph_ok fin N n hD.p hD.n0 (by omega) hn1.2 (by omega) hD.f S2
  -- the program's graph
  obtain ⟨fs2, fin2, run2, efg⟩ := folded_graph_ok n hn1.2 ws hlet N hN (by omega) (by omega) (.tup (ws.map dW)) rfl S2
  obtain ⟨hfs2, hfin2⟩ := run.det run2 hrm
  have hD2 : Done n N ws fin2 := run2.done (fun e => Iff.rfl) hlet hN
  rw [← hfs2, ← hD.one hD2] at efg
  -- folded in any sequence
  obtain ⟨fin3, fs3, S3, hS3, hq3, hf3, hp3, hn3, hl3, efa⟩ := law_folded_any res N n hpl hrn hrl (by omega) S2 hS2
  have hres : eS res = eS (rose 1 ws) := by
    funext p a q
    exact propext (hrm (p, a, q))
  have hD3 : Done n N ws fin3 := ⟨by rw [← hres]; exact hq3, hf3, hp3, hD.n0, hlet⟩
  have egr3 : F__law_graph [.int (n : Int), .lst (fin3.map eE)] S3 = .ok (dG (gOf n N fin3)) S3 := law_graph_ok fin3 N n hp3 hD.n0 (by omega) hn1.2 (by omega) hf3 S3
  rw [← hD.one hD3] at egr3
  have hGl := hD.le
  have hGp := hD.pos
  have hGok := hD.ok
  -- two turns
  obtain ⟨env4, S4, eturn, x9, x10, rfl, hS4⟩ := forL_inv (enc := fun k : Nat => D.int (k : Int)) (g := gN 9) (u := turnB) (List.range 2) (fun _ env S => ∃ x9 x10, env = EV ns n ws res N fin fs (gOf n N fin) x9 x10 none none none none none none ∧ SrcS [] S) (fun pre a post env S _ hR => by
    obtain ⟨x9, x10, rfl, hS⟩ := hR
    obtain ⟨x10', S', hS', e⟩ := turnB_ok (ns := ns) (res := res) (fs := fs) (x9 := some (.int (a : Int))) (x10 := x10) (x11 := none) (x12 := none) (x13 := none) (x14 := none) (x15 := none) (x16 := none) hn1.2 hD (by omega) hwl hws S hS
    exact ⟨EV ns n ws res N fin fs (gOf n N fin) (some (.int (a : Int))) x10 none none none none none none, _, _, rfl, .inl e, _, _, rfl, hS'⟩) (List.range 2) [] (EV ns n ws res N fin fs (gOf n N fin) none none none none none none none none) S3 rfl ⟨none, none, rfl, hS3⟩
  -- rank, index
  generalize hGd : gOf n N fin = G at *
  have hwh : whole G = decide (fin.length = n * G.length) := by rw [← hGd]; exact hD.whole hfn
  have hct : fin.length = tos G := by rw [← hGd]; exact hD.count hfn
  have hS5 : SrcS ([] ++ [D.lst [.int ((tos G : Nat) + 1 - (G.length : Nat)), if whole G = true then .int ((G.length : Nat) : Int) else .non]]) (S4 ++ [D.lst [.int ((tos G : Nat) + 1 - (G.length : Nat)), if whole G = true then .int ((G.length : Nat) : Int) else .non]]) := hS4.grow _
  have hS4l : S4.length = 2 := hS4.len
  generalize hS5d : S4 ++ [D.lst [.int ((tos G : Nat) + 1 - (G.length : Nat)), if whole G = true then .int ((G.length : Nat) : Int) else .non]] = S5 at hS5
  have hat5 : S5[2]? = some (D.lst [.int ((tos G : Nat) + 1 - (G.length : Nat)), if whole G = true then .int ((G.length : Nat) : Int) else .non]) := by
    rw [← hS5d, ← hS4l]
    exact get_new _ _
  -- members
  generalize hrest : [] ++ [D.lst [.int ((tos G : Nat) + 1 - (G.length : Nat)), if whole G = true then .int ((G.length : Nat) : Int) else .non]] = rest at hS5
  have hrl1 : rest.length = 1 := by rw [← hrest]; rfl
  have hS6 : SrcS (rest ++ [.lst (([] :: ws).map dW)]) (S5 ++ [.lst (([] :: ws).map dW)]) := hS5.grow _
  have hcl : ∀ w ∈ ([] :: ws), Let n w ∧ w.length ≤ 1000 ∧ Wk (eS fin) 0 w 0 := fun w hw => by
    rcases List.mem_cons.mp hw with rfl | hw
    · exact ⟨fun s hs => by simp at hs, by simp, rfl⟩
    · exact ⟨hlet w hw, by have := (hws w hw).2; omega, hD.closed hw⟩
  obtain ⟨env7, S7, emem, y9, ms, rfl, hS7, hml, hms, _⟩ := forL_inv (enc := fun k : Nat => D.int (k : Int)) (g := gN 9) (u := membB) (List.range 4) (fun pre env S => ∃ y9 ms, env = EV ns n ws res N fin fs G y9 x10 (some (.bl (decide (fin.length = n * G.length)))) (some (.obj 2)) (some (.lst [.int (1 + (fin.length : Int) - (G.length : Int)), if whole G = true then .int ((G.length : Nat) : Int) else .non])) (some (.obj 3)) none none ∧ SrcS (rest ++ [.lst (ms.map dW)]) S ∧ ms.length = 1 + ws.length + pre.length ∧ (∀ w ∈ ms, Let n w ∧ w.length ≤ 1000 ∧ Wk (eS fin) 0 w 0) ∧ ∀ w ∈ ms, w.length ≤ 8 * 2 ^ pre.length)
    (fun pre a post env S hap hR => by
      obtain ⟨y9, ms, rfl, hS, hml, hms, hm2⟩ := hR
      have hpre : pre.length < 4 := by
        have := congrArg List.length hap
        simp at this
        omega
      have hne : ms ≠ [] := fun z => by rw [z] at hml; simp at hml; omega
      obtain ⟨u, v, S', hu, hv, hS', e⟩ := membB_ok (rest := rest) (ns := ns) (res := res) (fs := fs) (x9 := some (.int (a : Int))) (x10 := x10) (x11 := some (.bl (decide (fin.length = n * G.length)))) (x12 := some (.obj 2)) (x13 := some (.lst [.int (1 + (fin.length : Int) - (G.length : Int)), if whole G = true then .int ((G.length : Nat) : Int) else .non])) (x15 := none) (x16 := none) hD ms (by omega) hne hms (fun w hw => (hms w hw).2.1) S hS G
      rw [hrl1] at e
      have hnl := net_len (u ++ inv v)
      rw [List.length_append, inv_len] at hnl
      have hu2 := hm2 u hu
      have hv2 := hm2 v hv
      have hpow : 8 * 2 ^ (pre.length + 1) = 8 * 2 ^ pre.length + 8 * 2 ^ pre.length := by rw [Nat.pow_succ]; omega
      have hpw : 2 ^ pre.length ≤ 2 ^ 3 := Nat.pow_le_pow_right (by decide) (by omega)
      refine ⟨EV ns n ws res N fin fs G (some (.int (a : Int))) x10 (some (.bl (decide (fin.length = n * G.length)))) (some (.obj 2)) (some (.lst [.int (1 + (fin.length : Int) - (G.length : Int)), if whole G = true then .int ((G.length : Nat) : Int) else .non])) (some (.obj 3)) none none, _, _, rfl, .inl e, _, ms ++ [net (u ++ inv v)], rfl, hS', by simp; omega, fun w hw => ?_, fun w hw => ?_⟩
      · rcases List.mem_append.mp hw with hw | hw
        · exact hms w hw
        · rw [List.mem_singleton.mp hw]
          exact ⟨net_let (app_let (hms u hu).1 (inv_let (hms v hv).1)), by omega, net_wk hD.f ((hms u hu).2.2.app (inv_wk (hms v hv).2.2))⟩
      · rw [List.length_append, List.length_singleton, hpow]
        rcases List.mem_append.mp hw with hw | hw
        · have := hm2 w hw
          omega
        · rw [List.mem_singleton.mp hw]
          omega) (List.range 4) [] (EV ns n ws res N fin fs G x9 x10 (some (.bl (decide (fin.length = n * G.length)))) (some (.obj 2)) (some (.lst [.int (1 + (fin.length : Int) - (G.length : Int)), if whole G = true then .int ((G.length : Nat) : Int) else .non])) (some (.obj 3)) none none) (S5 ++ [.lst (([] :: ws).map dW)]) rfl ⟨x9, [] :: ws, rfl, hS6, by simp; omega, hcl, fun w hw => by
        rcases List.mem_cons.mp hw with rfl | hw
        · simp
        · have := (hws w hw).2
          simp
          omega⟩
  have hml5 : ms.length ≤ 9 := by
    rw [hml, List.length_range]
    omega
  have hS5l : S5.length = 3 := by rw [hS5.len, hrl1]
  -- the scope of the members
  have hscope : ∃ z9 z10 S8, SrcS rest S8 ∧ sScope (sSeq (sSet 14 (e2 (opAdd BX) (eLst FZ (aCons (eTup aNil) aNil)) (eVar 3))) (sSeq (sFor (srcR1 (eC (.int 4))) (gN 9) membB) sNil)) (EV ns n ws res N fin fs G x9 x10 (some (.bl (decide (fin.length = n * G.length)))) (some (.obj 2)) (some (.lst [.int (1 + (fin.length : Int) - (G.length : Int)), if whole G = true then .int ((G.length : Nat) : Int) else .non])) none none none) S5 =
      .nx (EV ns n ws res N fin fs G z9 z10 (some (.bl (decide (fin.length = n * G.length)))) (some (.obj 2)) (some (.lst [.int (1 + (fin.length : Int) - (G.length : Int)), if whole G = true then .int ((G.length : Nat) : Int) else .non])) (some (.lst (ms.map dW))) none none) S8 := by
    obtain ⟨S8, hS8, e⟩ := scope_src (f := (sSeq (sSet 14 (e2 (opAdd BX) (eLst FZ (aCons (eTup aNil) aNil)) (eVar 3))) (sSeq (sFor (srcR1 (eC (.int 4))) (gN 9) membB) sNil))) (env := EV ns n ws res N fin fs G x9 x10 (some (.bl (decide (fin.length = n * G.length)))) (some (.obj 2)) (some (.lst [.int (1 + (fin.length : Int) - (G.length : Int)), if whole G = true then .int ((G.length : Nat) : Int) else .non])) none none none) hS5 hS7 (by
      refine sq_nx (env' := EV ns n ws res N fin fs G x9 x10 (some (.bl (decide (fin.length = n * G.length)))) (some (.obj 2)) (some (.lst [.int (1 + (fin.length : Int) - (G.length : Int)), if whole G = true then .int ((G.length : Nat) : Int) else .non])) (some (.obj 3)) none none) (S' := S5 ++ [.lst (([] :: ws).map dW)]) ?_ ?_
      · have e0 : eTup aNil (EV ns n ws res N fin fs G x9 x10 (some (.bl (decide (fin.length = n * G.length)))) (some (.obj 2)) (some (.lst [.int (1 + (fin.length : Int) - (G.length : Int)), if whole G = true then .int ((G.length : Nat) : Int) else .non])) none none none) S5 = .ok (dW []) S5 := by
          simp only [eTup, aNil, R.bind_ok, List.length_nil]
          rw [if_pos (by decide : (0 : Nat) ≤ sizeLine)]
          rfl
        have e1 : (e2 (opAdd BX) (eLst FZ (aCons (eTup aNil) aNil)) (eVar 3)) (EV ns n ws res N fin fs G x9 x10 (some (.bl (decide (fin.length = n * G.length)))) (some (.obj 2)) (some (.lst [.int (1 + (fin.length : Int) - (G.length : Int)), if whole G = true then .int ((G.length : Nat) : Int) else .non])) none none none) S5 = .ok (.obj 3) (S5 ++ [.lst (([] :: ws).map dW)]) := by
          refine (e2_ok (a := .lst [dW []]) (b := .lst (ws.map dW)) (S1 := S5) (S2 := S5) (lst1_ok e0) rfl).trans ?_
          unfold opAdd
          simp only [conL]
          rw [if_pos (by rw [List.length_map]; exact small_line (by simp; omega))]
          unfold BX
          rw [hS5l]
          rfl
        exact set_ok e1
      · exact sq_nx (for_nx (srcR1_of (a := 4) (n := 4) rfl (inR_of _ (by omega)) rfl) emem) rfl)
    have hat7 : S7[3]? = some (.lst (ms.map dW)) := by
      have := hS7.at
      rwa [hrl1] at this
    refine ⟨y9.bind (frz S5.length S7), x10.bind (frz S5.length S7), S8, hS8, e.trans ?_⟩
    refine congrArg (fun e => SR.nx e S8) ?_
    have f1 : frz S5.length S7 (.scr ns) = some (.scr ns) := rfl
    have f2 : frz S5.length S7 (.obj 0) = some (.obj 0) := by
      unfold frz
      show deep S5.length S7 3 0 = _
      unfold deep
      rw [if_pos (by omega)]
    have f3 : frz S5.length S7 (.obj 2) = some (.obj 2) := by
      unfold frz
      show deep S5.length S7 3 2 = _
      unfold deep
      rw [if_pos (by omega)]
    have f4 : frz S5.length S7 (.obj 3) = some (.lst (ms.map dW)) := frz_lst hat7 (by omega) (pureL_of (pure_map fun w _ => dW_pure w))
    have f5 : ∀ l : List (List Int), frz S5.length S7 (.lst (l.map dW)) = some (.lst (l.map dW)) := fun l => frz_pure (pure_lst (pure_map fun w _ => dW_pure w))
    have f6 : ∀ l : List E3, frz S5.length S7 (.lst (l.map eE)) = some (.lst (l.map eE)) := fun l => frz_pure (pure_lst (pure_map fun w _ => rfl))
    have f7 : ∀ l : List (List Int), frz S5.length S7 (.tup (l.map dW)) = some (.tup (l.map dW)) := fun l => frz_pure (pure_tup (pure_map fun w _ => dW_pure w))
    have f8 : frz S5.length S7 (dG G) = some (dG G) := frz_pure (dG_pure G)
    have f9 : frz S5.length S7 (.lst [.int (1 + (fin.length : Int) - (G.length : Int)), if whole G = true then .int ((G.length : Nat) : Int) else .non]) = some (.lst [.int (1 + (fin.length : Int) - (G.length : Int)), if whole G = true then .int ((G.length : Nat) : Int) else .non]) := frz_pure (by
      cases whole G <;> rfl)
    have f10 : ∀ i : Int, frz S5.length S7 (.int i) = some (.int i) := fun _ => rfl
    have f11 : ∀ b : Bool, frz S5.length S7 (.bl b) = some (.bl b) := fun _ => rfl
    unfold cutE EV
    simp only [List.map_cons, List.map_nil, Option.bind_some, Option.bind_none, f1, f2, f3, f4, f5, f6, f7, f8, f9, f10, f11]
  obtain ⟨z9, z10, S8, hS8, escope⟩ := hscope
  -- all members are read from home back to home, others as they are read
  obtain ⟨out, S9, ec, ⟨ds, rfl, hS9, hds⟩, hdl⟩ := lcL_inv (enc := fun k : Nat => D.int (k : Int)) (g := gN 9) (c := bYes) (el := (eCB F__law_doing (aCons (eVar 1) (aCons (eVar 2) (aCons (eC (.int 6)) aNil))))) (env := EV ns n ws res N fin fs G none z10 (some (.bl (decide (fin.length = n * G.length)))) (some (.obj 2)) (some (.lst [.int (1 + (fin.length : Int) - (G.length : Int)), if whole G = true then .int ((G.length : Nat) : Int) else .non])) (some (.lst (ms.map dW))) none none) (List.range 4) (by simp) (fun _ acc S => ∃ ds : List (List Int), acc = ds.map dW ∧ SrcS rest S ∧ ∀ w ∈ ds, Let n w)
    (fun pre a post acc S _ _ hI => by
      obtain ⟨ds, rfl, hS, hds⟩ := hI
      obtain ⟨w, S', hS', hw, _, e⟩ := doing_ok n 6 hn1 (by decide) S hS
      refine ⟨EV ns n ws res N fin fs G (some (.int (a : Int))) z10 (some (.bl (decide (fin.length = n * G.length)))) (some (.obj 2)) (some (.lst [.int (1 + (fin.length : Int) - (G.length : Int)), if whole G = true then .int ((G.length : Nat) : Int) else .non])) (some (.lst (ms.map dW))) none none, dW w, S', rfl, rfl, (cb3_ok rfl rfl rfl).trans e, ds ++ [w], by rw [List.map_append]; rfl, hS', fun v hv => ?_⟩
      rcases List.mem_append.mp hv with hv | hv
      · exact hds v hv
      · rw [List.mem_singleton.mp hv]
        exact hw) (List.range 4) [] [] S8 rfl rfl ⟨[], rfl, hS8, fun w hw => by simp at hw⟩
  rw [List.length_map, List.length_range] at hdl
  have hsrc : (e2 (opAdd FZ) (eVar 14) (eLc FZ (srcR1 (eC (.int 4))) (gN 9) [9] bYes (eCB F__law_doing (aCons (eVar 1) (aCons (eVar 2) (aCons (eC (.int 6)) aNil)))))) (EV ns n ws res N fin fs G z9 z10 (some (.bl (decide (fin.length = n * G.length)))) (some (.obj 2)) (some (.lst [.int (1 + (fin.length : Int) - (G.length : Int)), if whole G = true then .int ((G.length : Nat) : Int) else .non])) (some (.lst (ms.map dW))) none none) S8 = .ok (.lst ((ms ++ ds).map dW)) S9 := by
    have hlc : (eLc FZ (srcR1 (eC (.int 4))) (gN 9) [9] bYes (eCB F__law_doing (aCons (eVar 1) (aCons (eVar 2) (aCons (eC (.int 6)) aNil))))) (EV ns n ws res N fin fs G z9 z10 (some (.bl (decide (fin.length = n * G.length)))) (some (.obj 2)) (some (.lst [.int (1 + (fin.length : Int) - (G.length : Int)), if whole G = true then .int ((G.length : Nat) : Int) else .non])) (some (.lst (ms.map dW))) none none) S8 = .ok (.lst (ds.map dW)) S9 := by
      have h1 : srcR1 (eC (.int 4)) (EV ns n ws res N fin fs G z9 z10 (some (.bl (decide (fin.length = n * G.length)))) (some (.obj 2)) (some (.lst [.int (1 + (fin.length : Int) - (G.length : Int)), if whole G = true then .int ((G.length : Nat) : Int) else .non])) (some (.lst (ms.map dW))) none none) S8 = .ok ((List.range 4).map fun i : Nat => D.int (i : Int)) S8 := srcR1_of (a := 4) rfl (inR_of _ (by omega)) rfl
      unfold eLc
      rw [h1, R.bind_ok]
      show (lcL _ _ _ (EV ns n ws res N fin fs G none z10 (some (.bl (decide (fin.length = n * G.length)))) (some (.obj 2)) (some (.lst [.int (1 + (fin.length : Int) - (G.length : Int)), if whole G = true then .int ((G.length : Nat) : Int) else .non])) (some (.lst (ms.map dW))) none none) _ _ _).bind _ = _
      rw [ec, R.bind_ok]
      rfl
    refine (e2_ok (a := .lst (ms.map dW)) (S1 := S8) rfl hlc).trans ?_
    rw [add_lst _ _ _ (by rw [List.length_map, List.length_map]; exact small_line (by omega)), List.map_append]
  obtain ⟨env10, S10, eread, T, y12, y15, y16, hS10, rfl⟩ := forL_inv (enc := dW) (g := gN 15) (u := readB) (ms ++ ds) (fun _ env S => ∃ T x12 x15 x16, SrcS T S ∧ env = EV ns n ws res N fin fs G z9 z10 (some (.bl (decide (fin.length = n * G.length)))) x12 (some (.lst [.int (1 + (fin.length : Int) - (G.length : Int)), if whole G = true then .int ((G.length : Nat) : Int) else .non])) (some (.lst (ms.map dW))) x15 x16)
    (fun pre w post env S hmd hR => by
      obtain ⟨T, x12, x15, x16, hS, rfl⟩ := hR
      have hw : Let n w := by
        have : w ∈ ms ++ ds := by rw [hmd]; simp
        rcases List.mem_append.mp this with h | h
        · exact (hms w h).1
        · exact hds w h
      obtain ⟨T', x12', x16', S', hS', e⟩ := readB_ok (rest := T) (ns := ns) (res := res) (fs := fs) (x9 := z9) (x10 := z10) (x11 := some (.bl (decide (fin.length = n * G.length)))) (x12 := x12) (x13 := some (.lst [.int (1 + (fin.length : Int) - (G.length : Int)), if whole G = true then .int ((G.length : Nat) : Int) else .non])) (x14 := some (.lst (ms.map dW))) (x16 := x16) hD hn1.2 (by omega) w hw S hS
      rw [hGd] at e
      exact ⟨EV ns n ws res N fin fs G z9 z10 (some (.bl (decide (fin.length = n * G.length)))) x12 (some (.lst [.int (1 + (fin.length : Int) - (G.length : Int)), if whole G = true then .int ((G.length : Nat) : Int) else .non])) (some (.lst (ms.map dW))) (some (dW w)) x16, _, _, rfl, .inl e, T', x12', some (dW w), x16', hS', rfl⟩) (ms ++ ds) [] (EV ns n ws res N fin fs G z9 z10 (some (.bl (decide (fin.length = n * G.length)))) (some (.obj 2)) (some (.lst [.int (1 + (fin.length : Int) - (G.length : Int)), if whole G = true then .int ((G.length : Nat) : Int) else .non])) (some (.lst (ms.map dW))) none none) S9 rfl ⟨rest, _, _, _, hS9, rfl⟩
  have hfold : ∀ r, lastB (EV ns n ws res N fin fs G z9 z10 (some (.bl (decide (fin.length = n * G.length)))) y12 (some (.lst [.int (1 + (fin.length : Int) - (G.length : Int)), if whole G = true then .int ((G.length : Nat) : Int) else .non])) (some (.lst (ms.map dW))) y15 y16) S10 = r → u_law (some (.scr ns) :: List.replicate 16 none) [] = r := fun r hr => by
    unfold u_law
    show sSeq _ _ [some (.scr ns), none, none, none, none, none, none, none, none, none, none, none, none, none, none, none, none] [] = r
    refine sq_nx (env' := [some (.scr ns), some (.obj 0), none, none, none, none, none, none, none, none, none, none, none, none, none, none, none]) (S' := S0) (set_ok ((cb1_ok rfl).trans esrc)) ?_
    refine sq_nx (env' := [some (.scr ns), some (.obj 0), some (.int (n : Int)), none, none, none, none, none, none, none, none, none, none, none, none, none, none]) (S' := S1) ?_ ?_
    · have : (e2 (opAdd FZ) (eC (.int 1)) (eCB F__law_pick (aCons (eVar 1) (aCons (eC (.int 3)) aNil)))) [some (.scr ns), some (.obj 0), none, none, none, none, none, none, none, none, none, none, none, none, none, none, none] S0 = .ok (.int (n : Int)) S1 := by
        refine (e2_ok (S1 := S0) rfl ((cb2_ok rfl rfl).trans ep3)).trans ?_
        rw [hn, addI]
        congr 2
      exact set_ok this
    refine sq_nx (env' := [some (.scr ns), some (.obj 0), some (.int (n : Int)), some (.lst (ws.map dW)), none, none, none, none, none, none, none, none, none, none, none, none, none]) (S' := S2) (set_ok ((cb2_ok rfl rfl).trans eds)) ?_
    refine sq_nx (env' := [some (.scr ns), some (.obj 0), some (.int (n : Int)), some (.lst (ws.map dW)), some (.lst (res.map eE)), some (.int (N : Int)), none, none, none, none, none, none, none, none, none, none, none]) (S' := S2) ?_ ?_
    · have := (cb1_ok (k := F__law_rose) (f := eVar 3) (env := [some (.scr ns), some (.obj 0), some (.int (n : Int)), some (.lst (ws.map dW)), none, none, none, none, none, none, none, none, none, none, none, none, none]) (S := S2) rfl).trans ero
      simp only [sAsg, this, bindS_ok, hN]
      rfl
    refine sq_nx (env' := [some (.scr ns), some (.obj 0), some (.int (n : Int)), some (.lst (ws.map dW)), some (.lst (res.map eE)), some (.int (N : Int)), some (.lst (fin.map eE)), some (.tup (fs.map dW)), none, none, none, none, none, none, none, none, none]) (S' := S2) ?_ ?_
    · have := (cb3_ok (k := F__law_folded) (f := eVar 1) (g := eVar 4) (h := eC (.bl true)) (env := [some (.scr ns), some (.obj 0), some (.int (n : Int)), some (.lst (ws.map dW)), some (.lst (res.map eE)), some (.int (N : Int)), none, none, none, none, none, none, none, none, none, none, none]) (S := S2) rfl rfl rfl).trans efo
      simp only [sAsg, this, bindS_ok]
      rfl
    refine sq_nx (env' := EV ns n ws res N fin fs G none none none none none none none none) (S' := S2) (set_ok ((cb2_ok rfl rfl).trans egr)) ?_
    have py : ∀ g, pyL g [dG G, .tup (fs.map dW)] = some [pyGr G, .tuple (fs.map pyW)] := fun g => by
      simp only [pyL, pyG_G, pyG_words]
    refine sq_nx (env' := EV ns n ws res N fin fs G none none none none none none none none) (S' := S2) ((if_no ?_).trans rfl) ?_
    · refine alike_no (S1 := S2) (S2 := S2) (x := .tup [dG G, .tup (fs.map dW)]) (y := .tup [dG G, .tup (fs.map dW)]) ((cb2_ok rfl ((cb1_ok rfl).trans rfl)).trans efg) (tup2_ok rfl rfl) (toPy_tup py) (toPy_tup py) rfl rfl ?_
      rw [← hGd]
      exact shows_due hD hn1.2 (by omega) (by omega) hfs
    refine sq_nx (env' := EV ns n ws res N fin fs G none none none none none none none none) (S' := S3) ((if_no ?_).trans rfl) ?_
    · refine alike_no (S1 := S3) (S2 := S3) (x := dG G) (y := dG G) ?_ rfl (toPy_G _ _) (toPy_G _ _) rfl rfl (shows_G hGok hn1.2 (by omega))
      refine (cb2_ok (a := .int (n : Int)) (b := .lst (fin3.map eE)) (S1 := S2) (S2 := S3) rfl ?_).trans egr3
      exact (e2_ok ((cb3_ok rfl rfl rfl).trans efa) rfl).trans (opIx_ok (j := 0) rfl rfl)
    refine sq_nx (for_nx (srcR1_of (a := 2) (n := 2) rfl (inR_of _ (by omega)) rfl) eturn) ?_
    refine sq_nx (env' := EV ns n ws res N fin fs G x9 x10 (some (.bl (decide (fin.length = n * G.length)))) none none none none none) (S' := S4) ?_ ?_
    · have hl6 : (eCB (biLen) (aCons (eVar 6) aNil)) (EV ns n ws res N fin fs G x9 x10 none none none none none none) S4 = .ok (.int (fin.length : Int)) S4 := by
        rw [cb1_ok (f := eVar 6) (a := .lst (fin.map eE)) (S1 := S4) rfl, len_ok (ds := fin.map eE) rfl, List.length_map]
      have hl8 : (eCB (biLen) (aCons (eVar 8) aNil)) (EV ns n ws res N fin fs G x9 x10 none none none none none none) S4 = .ok (.int (G.length : Int)) S4 := by
        rw [cb1_ok (f := eVar 8) (a := dG G) (S1 := S4) rfl, len_ok (ds := G.map dR) rfl, List.length_map]
      have hmul : (e2 (opMulX FZ) (eVar 2) (eCB (biLen) (aCons (eVar 8) aNil))) (EV ns n ws res N fin fs G x9 x10 none none none none none none) S4 = .ok (.int ((n : Int) * (G.length : Int))) S4 := (e2_ok rfl hl8).trans (mul_small _ _ _ (decide_eq_true ⟨by omega, by omega⟩))
      have : (e2 opEq (eCB (biLen) (aCons (eVar 6) aNil)) (e2 (opMulX FZ) (eVar 2) (eCB (biLen) (aCons (eVar 8) aNil)))) (EV ns n ws res N fin fs G x9 x10 none none none none none none) S4 = .ok (.bl (decide (fin.length = n * G.length))) S4 := by
        have ed : decide ((fin.length : Int) = (n : Int) * (G.length : Int)) = decide (fin.length = n * G.length) := by
          rw [decide_eq_decide, ← Int.natCast_mul]
          omega
        rw [e2_ok hl6 hmul, eqI, ed]
      exact set_ok this
    have hidx : ∀ S, F_group_index [dG G] S = .ok (if whole G = true then .int ((G.length : Nat) : Int) else .non) S := fun S => index_ok' G (fun row hr => by rw [(hGok row hr).1]; omega) S
    refine sq_nx (env' := EV ns n ws res N fin fs G x9 x10 (some (.bl (decide (fin.length = n * G.length)))) (some (.obj 2)) (some (.lst [.int (1 + (fin.length : Int) - (G.length : Int)), if whole G = true then .int ((G.length : Nat) : Int) else .non])) none none none) (S' := S5) ?_ ?_
    · have h1 : (eLst BX (aCons (eCB F_group_rank (aCons (eVar 8) aNil)) (aCons (eCB F_group_index (aCons (eVar 8) aNil)) aNil))) (EV ns n ws res N fin fs G x9 x10 (some (.bl (decide (fin.length = n * G.length)))) none none none none none) S4 = .ok (.obj 2) S5 := by
        refine (lst2_ok ((cb1_ok rfl).trans (rank_ok hGok hn1.2 (by omega) S4)) ((cb1_ok rfl).trans (hidx S4))).trans ?_
        unfold BX
        rw [hS5d, hS4l]
      have hl6 : (eCB (biLen) (aCons (eVar 6) aNil)) (EV ns n ws res N fin fs G x9 x10 (some (.bl (decide (fin.length = n * G.length)))) none none none none none) S5 = .ok (.int (fin.length : Int)) S5 := by
        rw [cb1_ok (f := eVar 6) (a := .lst (fin.map eE)) (S1 := S5) rfl, len_ok (ds := fin.map eE) rfl, List.length_map]
      have hl8 : (eCB (biLen) (aCons (eVar 8) aNil)) (EV ns n ws res N fin fs G x9 x10 (some (.bl (decide (fin.length = n * G.length)))) none none none none none) S5 = .ok (.int (G.length : Int)) S5 := by
        rw [cb1_ok (f := eVar 8) (a := dG G) (S1 := S5) rfl, len_ok (ds := G.map dR) rfl, List.length_map]
      have h2 : (e2 (opSub) (e2 (opAdd FZ) (eC (.int 1)) (eCB (biLen) (aCons (eVar 6) aNil))) (eCB (biLen) (aCons (eVar 8) aNil))) (EV ns n ws res N fin fs G x9 x10 (some (.bl (decide (fin.length = n * G.length)))) none none none none none) S5 = .ok (.int (1 + (fin.length : Int) - (G.length : Int))) S5 :=
        (e2_ok ((e2_ok rfl hl6).trans rfl) hl8).trans rfl
      have h3 : (eIf (bVal (eVar 11)) (eCB (biLen) (aCons (eVar 8) aNil)) (eC .non)) (EV ns n ws res N fin fs G x9 x10 (some (.bl (decide (fin.length = n * G.length)))) none none none none none) S5 = .ok (if whole G = true then .int ((G.length : Nat) : Int) else .non) S5 := by
        rw [hwh]
        by_cases q : fin.length = n * G.length
        · rw [decide_eq_true q] at hl8 ⊢
          rw [eif_yes (S1 := S5) (bval_ok rfl), hl8, if_pos rfl]
        · rw [decide_eq_false q, eif_no (S1 := S5) (bval_ok rfl), if_neg Bool.false_ne_true]
          rfl
      have h4 := lst2_ok (fin := FZ) h2 h3
      simp only [sPar, aCons, aNil, h1, h4, R.bind_ok, FZ, bindS_ok]
      rfl
    refine sq_nx (env' := EV ns n ws res N fin fs G x9 x10 (some (.bl (decide (fin.length = n * G.length)))) (some (.obj 2)) (some (.lst [.int (1 + (fin.length : Int) - (G.length : Int)), if whole G = true then .int ((G.length : Nat) : Int) else .non])) none none none) (S' := S5) ((if_no ?_).trans rfl) ?_
    · have e1 : (1 + (fin.length : Int) - (G.length : Int)) = ((tos G : Nat) + 1 - (G.length : Nat)) := by omega
      have py : ∀ g, pyL g [.int ((tos G : Nat) + 1 - (G.length : Nat)), if whole G = true then .int ((G.length : Nat) : Int) else .non] = some [.int ((tos G : Nat) + 1 - (G.length : Nat)), if whole G = true then .int ((G.length : Nat) : Int) else .none] := fun g => by
        cases whole G <;> simp [pyL, pyG]
      rw [e1]
      refine alike_no (S1 := S5) (S2 := S5) (x := .obj 2) (y := .lst [.int ((tos G : Nat) + 1 - (G.length : Nat)), if whole G = true then .int ((G.length : Nat) : Int) else .non]) rfl rfl (toPy_obj hat5 py) (toPy_lst py) rfl rfl ?_
      refine shows_of (Sh.lst (d := 0) (l := 10) fun p hp => ?_) (by decide) (Nat.le_trans (by simp : _ ≤ 100) (by decide))
      simp only [List.mem_cons, List.not_mem_nil, or_false] at hp
      rcases hp with rfl | rfl
      · exact Sh.any _ (by omega)
      · cases whole G with
        | true => exact Sh.nat _ (by omega)
        | false => exact Sh.none.weak (Nat.le_refl _) (by decide)
    refine sq_nx escope ?_
    refine sq_nx (for_nx (srcV_ok hsrc rfl) eread) ?_
    refine sq_nx ((if_no ?_).trans rfl) hr
    have hlc : (eLc FZ (srcV (eVar 14)) (gN 15) [15] (bVal (e2 opNe (eCB F__law_read (aCons (eVar 8) (aCons (eC (.int 0)) (aCons (eVar 15) aNil)))) (eC (.int 0)))) (eVar 15)) (EV ns n ws res N fin fs G z9 z10 (some (.bl (decide (fin.length = n * G.length)))) y12 (some (.lst [.int (1 + (fin.length : Int) - (G.length : Int)), if whole G = true then .int ((G.length : Nat) : Int) else .non])) (some (.lst (ms.map dW))) y15 y16) S10 = .ok (.lst ((ms.filter fun _ => false).map dW)) S10 := by
      refine lc_fzp (enc := dW) (as := ms) (S1 := S10) (fun _ => false) dW (srcV_ok rfl rfl) (fun w hw => ?_) (small_line (by omega))
      have hrd : rdG G 0 w = some 0 := by rw [← hGd]; exact hD.reads (hms w hw).2.2
      refine ⟨EV ns n ws res N fin fs G z9 z10 (some (.bl (decide (fin.length = n * G.length)))) y12 (some (.lst [.int (1 + (fin.length : Int) - (G.length : Int)), if whole G = true then .int ((G.length : Nat) : Int) else .non])) (some (.lst (ms.map dW))) (some (dW w)) y16, rfl, bval_ok ((e2_ok ((cb3_ok rfl rfl rfl).trans (law_read_ok hGok (p := 0) hGp (hms w hw).1 S10)) rfl).trans ?_), fun z => absurd z Bool.false_ne_true⟩
      rw [hrd]
      rfl
    have hfil : (ms.filter fun _ => false) = [] := List.filter_eq_nil_iff.mpr fun _ _ => Bool.false_ne_true
    rw [hfil] at hlc
    exact bval_ok ((e2_ok hlc (lst0 _ _)).trans (ne_words [] S10))
  rcases last_ok (ns := ns) (n := n) (N := N) (ws := ws) (fs := fs) (res := res) (fin := fin) (G := G) (x9 := z9) (x10 := z10) (x11 := some (.bl (decide (fin.length = n * G.length)))) (x12 := y12) (x13 := some (.lst [.int (1 + (fin.length : Int) - (G.length : Int)), if whole G = true then .int ((G.length : Nat) : Int) else .non])) (x14 := some (.lst (ms.map dW))) (x15 := y15) (x16 := y16) S10 hS10 with ⟨S', e⟩ | ⟨env, S', h1, e⟩
  · exact .inl ⟨S', hfold _ e⟩
  · exact .inr ⟨env, S', h1, hfold _ e⟩
end K48
set_option Elab.async false
set_option linter.all false
set_option maxRecDepth 100000
set_option maxHeartbeats 1000000
namespace K48
open PySem PySem.Spec PySem.W PyProof.Rows L2 Hx
open FG (E3 eS Cp St Fd Rd Wk Let Hm Qt Rch Cn rose roseW places signs stage gr tos rdG edge)
theorem ones_edges : ∀ (k : Nat) (m : Int) (e : E3), e ∈ roseW (m - 1) m (List.replicate (k + 1) 1) ↔ (∃ j : Nat, j < k ∧ e = (m - 1 + j, 1, m + j)) ∨ e = (m - 1 + k, 1, 0)
  | 0, m, e => by
    have h : roseW (m - 1) m (List.replicate (0 + 1) 1) = [(m - 1, 1, 0)] := rfl
    rw [h, List.mem_singleton]
    simp
  | k + 1, m, e => by
    have h : roseW (m - 1) m (List.replicate (k + 1 + 1) 1) = (m - 1, 1, m) :: roseW m (m + 1) (List.replicate (k + 1) 1) := rfl
    have ih := ones_edges k (m + 1) e
    rw [show m + 1 - 1 = m by omega] at ih
    rw [h, List.mem_cons, ih]
    constructor
    · rintro (rfl | ⟨j, hj, rfl⟩ | rfl)
      · exact .inl ⟨0, by omega, by simp⟩
      · refine .inl ⟨j + 1, by omega, ?_⟩
        have e1 : m - 1 + ((j + 1 : Nat) : Int) = m + j := by omega
        have e2 : m + ((j + 1 : Nat) : Int) = m + 1 + j := by omega
        rw [e1, e2]
      · refine .inr ?_
        have e1 : m - 1 + ((k + 1 : Nat) : Int) = m + k := by omega
        rw [e1]
    · rintro (⟨j, hj, rfl⟩ | rfl)
      · cases j with
        | zero => exact .inl (by simp)
        | succ j =>
          refine .inr (.inl ⟨j, by omega, ?_⟩)
          have e1 : m - 1 + ((j + 1 : Nat) : Int) = m + j := by omega
          have e2 : m + ((j + 1 : Nat) : Int) = m + 1 + j := by omega
          rw [e1, e2]
      · refine .inr (.inr ?_)
        have e1 : m - 1 + ((k + 1 : Nat) : Int) = m + k := by omega
        rw [e1]
theorem ones_rose (k : Nat) (p a q : Int) : eS (rose 1 [List.replicate (k + 1) 1]) p a q ↔ a = 1 ∧ ((0 ≤ p ∧ p < k ∧ q = p + 1) ∨ (p = k ∧ q = 0)) := by
  have h := ones_edges k 1 (p, a, q)
  rw [show (1 : Int) - 1 = 0 by decide] at h
  show (p, a, q) ∈ roseW 0 1 (List.replicate (k + 1) 1) ++ [] ↔ _
  rw [List.append_nil, h]
  constructor
  · rintro (⟨j, hj, e⟩ | e)
    · simp only [Prod.mk.injEq] at e
      omega
    · simp only [Prod.mk.injEq] at e
      omega
  · rintro ⟨rfl, ⟨h1, h2, rfl⟩ | ⟨rfl, rfl⟩⟩
    · refine .inl ⟨p.toNat, by omega, ?_⟩
      rw [Prod.mk.injEq, Prod.mk.injEq]
      exact ⟨by omega, rfl, by omega⟩
    · refine .inr ?_
      rw [Prod.mk.injEq, Prod.mk.injEq]
      exact ⟨by omega, rfl, rfl⟩
theorem ones_fd (k : Nat) : Fd (eS (rose 1 [List.replicate (k + 1) 1])) := fun p s q q' h h' => by
  rcases h with ⟨h1, h2⟩ | ⟨h1, h2⟩
  · rcases h' with ⟨_, h4⟩ | ⟨h3, _⟩
    · have := (ones_rose k _ _ _).mp h2
      have := (ones_rose k _ _ _).mp h4
      omega
    · omega
  · rcases h' with ⟨h3, _⟩ | ⟨_, h4⟩
    · omega
    · have := (ones_rose k _ _ _).mp h2
      have := (ones_rose k _ _ _).mp h4
      omega
theorem ones_places (k : Nat) : places 1 [List.replicate (k + 1) (1 : Int)] = ((k + 1 : Nat) : Int) := by
  show (1 : Int) + (((List.replicate (k + 1) (1 : Int)).length - 1 : Nat) : Int) = _
  rw [List.length_replicate]
  omega
theorem ones_let (k : Nat) : ∀ w ∈ [List.replicate (k + 1) (1 : Int)], Let 1 w := fun w hw s hs => by
  rw [List.mem_singleton.mp hw] at hs
  have := List.eq_of_mem_replicate hs
  omega
theorem ones_arg (k : Nat) : D.tup [.tup (List.replicate k (.int 1))] = .tup ([List.replicate k (1 : Int)].map dW) := by
  show D.tup [.tup _] = D.tup [dW _]
  unfold dW
  rw [List.map_replicate]
theorem ones_len (k : Nat) (hk : k ≤ 5000) : lenAll [List.replicate (k + 1) (1 : Int)] ≤ 10000 := by
  have : lenAll [List.replicate (k + 1) (1 : Int)] = k + 1 := by
    unfold lenAll
    simp
  omega
theorem fg_ok (k : Nat) (hk : k < 300) : ∃ gr fs ds, F_folded_graph [.int 1, .tup [.tup (List.replicate (k + 1) (.int 1))]] [] = .ok (.tup [.tup gr, fs]) [] ∧ gr.length = k + 1 ∧ ds = gr := by
  obtain ⟨fs, fin, run, e⟩ := folded_graph_ok 1 (by decide) [List.replicate (k + 1) 1] (ones_let k) (k + 1) (ones_places k) (by omega) (ones_len k (by omega)) (.tup ([List.replicate (k + 1) (1 : Int)].map dW)) rfl []
  have hD := run.done (fun e => Iff.rfl) (ones_let k) (ones_places k)
  have hD0 : Done 1 (k + 1) [List.replicate (k + 1) 1] (rose 1 [List.replicate (k + 1) 1]) := ⟨Qt.refl, ones_fd k, rose_pl (ones_places k) (ones_let k), by omega, ones_let k⟩
  refine ⟨(gOf 1 (k + 1) fin).map dR, .tup (fs.map dW), _, ?_, ?_, rfl⟩
  · rw [ones_arg]
    exact e
  · rw [List.length_map, hD.one hD0, hD0.len]
    have h1 := FG.nodup_eq (l := stage (signs 1) (onL' (rose 1 [List.replicate (k + 1) 1])) (k + 1)) (m := (List.range (k + 1)).map fun i : Nat => (i : Int)) (FG.stage_nodup _) (map_of_nodup _ (fun a b e => by omega) (List.nodup_range)) fun x => ?_
    · rw [h1, List.length_map, List.length_range]
    · constructor
      · intro hx
        have hr := FG.stage_rch hD0.rd (signs 1) (k + 1) x hx
        have hin := FG.stage_all (sg := signs 1) (on := onL' (rose 1 [List.replicate (k + 1) 1])) (fun p => 0 ≤ p ∧ p < ((k + 1 : Nat) : Int)) ⟨by omega, by omega⟩ (fun p s q _ _ e => by
          rcases (hD0.rd _ _ _).mp e with ⟨_, h⟩ | ⟨_, h⟩
          · have := hD0.p.pl _ h
            exact ⟨this.2.2.1, this.2.2.2⟩
          · have := hD0.p.pl _ h
            exact ⟨this.1, this.2.1⟩) (k + 1) x hx
        exact List.mem_map.mpr ⟨x.toNat, List.mem_range.mpr (by omega), by omega⟩
      · intro hx
        obtain ⟨i, hi, rfl⟩ := List.mem_map.mp hx
        rw [List.mem_range] at hi
        refine hD0.line ?_
        by_cases z : i < k
        · exact (hD0.cn (i : Int) 1 ((i : Int) + 1) ((ones_rose k _ _ _).mpr ⟨rfl, .inl ⟨by omega, by omega, rfl⟩⟩)).1
        · exact (hD0.cn (i : Int) 1 0 ((ones_rose k _ _ _).mpr ⟨rfl, .inr ⟨by omega, rfl⟩⟩)).1
theorem fg300 : ∃ gr fs ds, F_folded_graph [.int 1, .tup [.tup (List.replicate 300 (.int 1))]] [] = .ok (.tup [.tup gr, fs]) [] ∧ gr.length = 300 ∧ ds = gr := fg_ok 299 (by decide)
theorem fg_great (k : Nat) (hk : 300 ≤ k) (hk2 : k ≤ 5000) : F_folded_graph [.int 1, .tup [.tup (List.replicate (k + 1) (.int 1))]] [] = .exc (.int 2) [] := by
  rw [ones_arg]
  exact folded_graph_great 1 [List.replicate (k + 1) 1] (by rw [ones_places]; omega) (ones_len k hk2) _ rfl []
theorem fg301 : F_folded_graph [.int 1, .tup [.tup (List.replicate 301 (.int 1))]] [] = .exc (.int 2) [] := fg_great 300 (by decide) (by decide)
end K48
set_option Elab.async false
set_option linter.all false
set_option maxRecDepth 100000
set_option maxHeartbeats 4000000
namespace K48
open PySem PySem.Spec PyProof.Rows L2 Hx
abbrev N_told : List Str := ["call", "error"]
theorem sc_told : FnScope N_told ["call"] (defScope s__law_told) := ⟨rfl, rfl, rfl, by decide +kernel, rfl, by decide +kernel, by decide +kernel⟩
/-- a name where the slots are as many as the names -/
def tVarL (i n : Nat) : TE := fun σ H Q => σ.length = n → tVar i σ H Q
theorem pe_varL {X : Cx} {e : Expr} {i n : Nat} (h : PE X e (tVar i)) (hn : X.N.length = n) : PE X e (tVarL i n) := ⟨fun pins s σ H Q I q => h.run pins s σ H Q I (q (I.len.trans hn))⟩
/-- told: ('told', a()) or, where a() lets a TooGreat out, ('great', its number) -/
def TTold2 (tg : Addr) : (XK → Hp → VK → Prop) → Hp → VK → Prop := fun tl H Q =>
  tl (fun cls d H' => cls = .ref tg ∧ ∃ (dd : Addr) (v : V), d = some dd ∧ H' dd = some (.xd [("number", v)]) ∧ ∀ q, H' q = none → Q (.ref q) (upd H' q (.tup [.str "great", v]))) H
    fun v H' => ([.str "told", v] : List V).length ≤ sizeLine ∧ ∀ q, H' q = none → Q (.ref q) (upd H' q (.tup [.str "told", v]))
theorem told_gives2 {X : Cx} {tg fI g : Addr} {cdg : Value} {q : Str} (T : TooX.TooTxt X.prog X.K X.mg tg fI) : LamX.GivesTo X N_told "_law_told" (defScope s__law_told) g cdg (defBody s__law_told) "call" q (TTold2 tg) := by
  intro f c' s H Q tl act hc h
  refine ⟨_, pss_one (ps_try_as (X := (cxOf C8.CX0 X.prog X.w X.K X.mg X.base N_told "_law_told" (defScope s__law_told) g cdg X.A X.stack s H C8.E0).nox) (c := .ref tg) (i := 1)
      (tb := fun W D σ H => ∃ Ech : XK, (∀ cls d σ' H', Ech cls d H' → W cls d σ' H') ∧ σ[0]? = some (some (.ref f)) ∧ H c' = some (LamX.CodeO c' q) ∧ tl Ech H fun v H' => ([.str "told", v] : List V).length ≤ sizeLine ∧ ∀ p, H' p = none → D.rt (.ref p) (upd H' p (.tup [.str "told", v])))
      (ts := fun a cls d => tRet (tTup (tCons (tC (.str "great")) (tCons (tNum tg a cls d (tVarL 1 2)) tNil)))) (Wout := fun _ _ _ _ => False)
      rfl rfl sc_told.nd rfl rfl ⟨rfl, by decide, .inl T.gC⟩ LamX.takes0 (fun W pn xe tk _ => ?_) (fun a oe cls d pn hz hf => pss_one (ps_ret (pe_tup (pa_cons pe_str (pa_cons (pe_num T hz hf (pe_varL (pv 1) rfl)) pa_nil)))))), ?_⟩
  · refine ⟨fun pins s' σ H' D I h' => ?_⟩
    obtain ⟨Ech, hW, h1, h2, h3⟩ := h'
    exact (pss_one (ps_ret (pe_tup (pa_cons pe_str (pa_cons (act W pn xe Ech _ _ tk hW) pa_nil))))).run pins s' σ H' D I ⟨h1, h2, h3⟩
  · refine ⟨_, fun cls d σ' H' hh => ?_, rfl, hc, h⟩
    obtain ⟨rfl, dd, v, rfl, hd, k⟩ := hh
    refine ⟨true, T.te, fun _ a ha => ?_, fun q => Bool.noConfusion q⟩
    refine fun hl => ⟨.ref a, ?_, rfl, rfl, dd, v, rfl, hd, by show 2 ≤ sizeLine; decide, k⟩
    rw [List.length_set] at hl
    exact List.getElem?_set_self (by omega)
end K48
set_option Elab.async false
set_option linter.all false
set_option maxRecDepth 100000
set_option maxHeartbeats 4000000
namespace K48
open PySem PySem.Spec PyProof.Rows L2 Hx
/-! the lambdas -/
def e_lam1 : SE := (eCB (biLen) (aCons (e2 opIx (eCB F_folded_graph (aCons (eC (.int 1)) (aCons (eTup (aCons (e2 (opMulX FZ) (eTup (aCons (eC (.int 1)) aNil)) (eC (.int 300))) aNil)) aNil))) (eC (.int 0))) aNil))
def lam1 : Expr × Scope := match (defBody s_law).getD 17 (.Pass ⟨0, 0, 0, 0⟩) with
  | .Assign _ (.List [.Call _ [.Lambda _ b sc _] _ _] _) _ => (b, sc)
  | _ => (.Constant .none 0 ⟨0, 0, 0, 0⟩, defScope s_law)
theorem b_lam1 {P : Program} {w : World} {K : PySem.W.Frag} {mg : Str → Option Value} {base : Heap} {tg fI : Addr} (T : Tx P K mg tg fI) (D_folded_graph : DOk P w K mg base tg 4 "folded_graph" F_folded_graph) {f : Addr} {cdv : Value} {A : Around} {outer : List Env} {s : Shared} {H : Hp} {E : XK} {A2 : Around} {outer2 : List Env} {s2 : Shared} {H2 : Hp} {E2 : XK} {f2 c2 : Addr}
    (hr : Room 4 (A2.deeper (LamX.lamEnv (cxOf (L2.CX P w) P w K mg base N_law "law" (defScope s_law) f cdv A outer s H E) lam1.2 s2.heap.objs.size f2 c2))) :
    JE (LamX.lamCx (cxOf (L2.CX P w) P w K mg base N_law "law" (defScope s_law) f cdv A outer s H E) A2 outer2 s2 H2 E2 lam1.2 f2 c2) tg E2 lam1.1 e_lam1 := by
  have hr_folded_graph := hr.mono (show 4 ≤ 4 by decide)
  exact (j_bi k_len (pe_callB call_len (by rfl) T.b_len PySem.boot_len (ja_cons (j_ix ix_any k_ix (fun _ _ => rfl) (j_call D_folded_graph fun _ _ _ F m kp b => pe_call F hr_folded_graph rfl m kp b .nil (passX rfl rfl rfl rfl) (ja_cons j_int (ja_cons (j_tup (ja_cons (j_bin op_mulX (k_mulX (fin := FZ)) (j_tup (ja_cons j_int ja_nil)) j_int) ja_nil)) ja_nil))) j_int) ja_nil)))
def e_lam2 : SE := (eCB F_folded_graph (aCons (eC (.int 1)) (aCons (eTup (aCons (e2 (opMulX FZ) (eTup (aCons (eC (.int 1)) aNil)) (eC (.int 301))) aNil)) aNil)))
def lam2 : Expr × Scope := match (defBody s_law).getD 18 (.Pass ⟨0, 0, 0, 0⟩) with
  | .Expr (.Call _ [.Call _ [.Lambda _ b sc _] _ _] _ _) _ => (b, sc)
  | _ => (.Constant .none 0 ⟨0, 0, 0, 0⟩, defScope s_law)
theorem b_lam2 {P : Program} {w : World} {K : PySem.W.Frag} {mg : Str → Option Value} {base : Heap} {tg fI : Addr} (T : Tx P K mg tg fI) (D_folded_graph : DOk P w K mg base tg 4 "folded_graph" F_folded_graph) {f : Addr} {cdv : Value} {A : Around} {outer : List Env} {s : Shared} {H : Hp} {E : XK} {A2 : Around} {outer2 : List Env} {s2 : Shared} {H2 : Hp} {E2 : XK} {f2 c2 : Addr}
    (hr : Room 4 (A2.deeper (LamX.lamEnv (cxOf (L2.CX P w) P w K mg base N_law "law" (defScope s_law) f cdv A outer s H E) lam2.2 s2.heap.objs.size f2 c2))) :
    JE (LamX.lamCx (cxOf (L2.CX P w) P w K mg base N_law "law" (defScope s_law) f cdv A outer s H E) A2 outer2 s2 H2 E2 lam2.2 f2 c2) tg E2 lam2.1 e_lam2 := by
  have hr_folded_graph := hr.mono (show 4 ≤ 4 by decide)
  exact (j_call D_folded_graph fun _ _ _ F m kp b => pe_call F hr_folded_graph rfl m kp b .nil (passX rfl rfl rfl rfl) (ja_cons j_int (ja_cons (j_tup (ja_cons (j_bin op_mulX (k_mulX (fin := FZ)) (j_tup (ja_cons j_int ja_nil)) j_int) ja_nil)) ja_nil)))
end K48
set_option Elab.async false
set_option linter.all false
set_option maxRecDepth 100000
set_option maxHeartbeats 4000000
namespace K48
open PySem PySem.Spec PyProof.Rows L2 Hx
/-- the law's own table of code objects: lambdas -/
def tabs0 (Pt : Addr) : List (Addr × Str) := [(Pt, (envOfC "law" (defScope s_law) 0 0 .none).qual ++ "<lambda>")]
def t_end (K : PySem.W.Frag) (tg Pt : Addr) : TS :=
  tSeq (tAsg (tLst (tCons (LamX.tLam (tabs0 Pt) (TTold2 tg) fun E => tE K tg E e_lam1) tNil)) (gName 12))
    (tSeq (tDrop (tBM K "list" rAppend (tVar 12) (tCons (LamX.tLam (tabs0 Pt) (TTold2 tg) fun E => tE K tg E e_lam2) tNil)))
      (tRet (tOp rEq (tCB (rReprS K) (tCons (tVar 12) tNil)) (tCB (rReprS K) (tCons (tLst (tCons (tTup (tCons (tC (.str "told")) (tCons (tC (.int 300)) tNil))) (tCons (tTup (tCons (tC (.str "great")) (tCons (tC (.int 2)) tNil))) tNil))) tNil)))))
theorem end_pss {P : Program} {w : World} {K : PySem.W.Frag} {mg : Str → Option Value} {base : Heap} {tg fI g c Pt : Addr} {fdg : FuncData} (T : Tx P K mg tg fI) (D_folded_graph : DOk P w K mg base tg 4 "folded_graph" F_folded_graph)
    (Fg : Fun K "_law_told" "_law_told" s__law_told g fdg) (mgG : mg "_law_told" = some (.ref g)) (bg : Binds K fdg ["call"] []) (TB : LamX.TabB base mg c Pt) {f : Addr} {A : Around} {outer : List Env} {s : Shared} {H : Hp} {E : XK}
    (hr : Room 6 (A.deeper (envOfC "law" (defScope s_law) s.heap.objs.size f (.ref c)))) (hG : (A.deeper (envOfC "law" (defScope s_law) s.heap.objs.size f (.ref c))).guards = some []) :
    PSs (cxOf (L2.CX P w) P w K mg base N_law "law" (defScope s_law) f (.ref c) A outer s H E) ((defBody s_law).drop 17) (t_end K tg Pt) := by
  obtain ⟨oc, od, kV, doc, pm, an, cdv, ct, osl, rfl, lk, hcd⟩ := Fg.ex
  refine pss_cons (ps_set (i := 12) sc_law.nd rfl (Or.inl rfl) (pe_lst (pa_cons (LamX.pe_lamcall (k := 4) (Ng := N_told) rfl mgG Fg.kp lk hcd bg sc_told rfl (Or.inl rfl) (told_gives2 T.too) TB rfl (List.mem_singleton.mpr rfl) (fun p hp _ => by rw [List.mem_singleton.mp hp]; rfl) hr (LamX.lamS_by (sc := defScope s_law) (by decide +kernel)) rfl (fun _ _ _ _ _ => rfl) (fun A2 outer2 s2 H2 E2 f2 c2 hr2 => b_lam1 T D_folded_graph hr2)) pa_nil))) (pss_cons (ps_expr (pe_bm PySem.F.plainAttrs_list PySem.F.slot_list_append PySem.F.type_list_append mt_append (pv 12) (pa_cons (LamX.pe_lamcall (k := 4) (Ng := N_told) rfl mgG Fg.kp lk hcd bg sc_told rfl (Or.inl rfl) (told_gives2 T.too) TB rfl (List.mem_singleton.mpr rfl) (fun p hp _ => by rw [List.mem_singleton.mp hp]; rfl) hr (LamX.lamS_by (sc := defScope s_law) (by decide +kernel)) rfl (fun _ _ _ _ _ => rfl) (fun A2 outer2 s2 H2 E2 f2 c2 hr2 => b_lam2 T D_folded_graph hr2)) pa_nil)))
    (pss_one (ps_ret (pe_cmpR op_eq (pe_callB (call_reprS hG hr.units) (by rfl) T.b_repr boot_repr (pa_cons (pv 12) pa_nil)) (pe_callB (call_reprS hG hr.units) (by rfl) T.b_repr boot_repr (pa_cons (pe_lst (pa_cons (pe_tup (pa_cons pe_str (pa_cons pe_int pa_nil))) (pa_cons (pe_tup (pa_cons pe_str (pa_cons pe_int pa_nil))) pa_nil))) pa_nil)) (nomark _)))))
end K48
set_option Elab.async false
set_option linter.all false
set_option maxRecDepth 100000
set_option maxHeartbeats 4000000
namespace K48
open PySem PySem.Spec PyProof.Rows L2 Hx
/-- nothing of the store -/
abbrev W0 (H : Hp) : Wd := ⟨fun _ => 0, 0, H, fun _ => False⟩
theorem W0.free (H : Hp) (a : Addr) : Free (W0 H) a := ⟨fun i hi => absurd hi (Nat.not_lt_zero i), fun z => z⟩
theorem W0.ok (K : PySem.W.Frag) (H : Hp) : SOk K (W0 H) [] := ⟨rfl, fun i j hi => absurd hi (Nat.not_lt_zero i), fun a z => z.elim, fun i d e => by simp at e⟩
theorem W0.ev (K : PySem.W.Frag) (H : Hp) (σ : L2.St) : EvR K (W0 H) (List.replicate σ.length none) σ := ⟨by simp, fun i d e => by
  rw [List.getElem?_replicate] at e
  split at e <;> cases e⟩
theorem W0.kept {H : Hp} {W : Wd} (l : Le (W0 H) W) {a : Addr} {o : HO} (h : H a = some o) (hb : ¬ Fb o) : W.H a = some o := by
  rcases l.keep a o h (.inl (W0.free H a)) with q | ⟨q, _⟩
  · exact q
  · exact absurd q hb
theorem W0.tabs {T : List (Addr × Str)} {H : Hp} {W : Wd} (l : Le (W0 H) W) (t : LamX.Tabs T H) : LamX.Tabs T W.H := fun p hp => by
  obtain ⟨ps, h1, h2, h3⟩ := t p hp
  refine ⟨ps, W0.kept l h1 (fun z => z), h2, fun pos cv hc => ?_⟩
  obtain ⟨c, e1, e2⟩ := h3 pos cv hc
  exact ⟨c, e1, W0.kept l e2 (by unfold LamX.CodeO; exact fun z => z)⟩
theorem tabs_upd {T : List (Addr × Str)} {H : Hp} {q : Addr} {o : HO} (hq : H q = none) (t : LamX.Tabs T H) : LamX.Tabs T (upd H q o) := t.ext fun b u e => by
  rw [upd_ne (ne_of_none e hq)]
  exact e
theorem hsh0 : shows (.list [.tuple [.str "told", .int 300], .tuple [.str "great", .int 2]]) = true := by decide +kernel
theorem flat1 {α : Type} (x : α) : ∀ n : Nat, (List.replicate n [x]).flatten = List.replicate n x
  | 0 => rfl
  | n + 1 => by rw [List.replicate_succ, List.replicate_succ, List.flatten_cons, flat1 x n]; rfl
theorem mulX (n : Nat) (h1 : 2 ≤ n) (h2 : n ≤ 1000) : opMulX FZ (.tup [.int 1]) (.int (n : Int)) [] = .ok (.tup (List.replicate n (.int 1))) [] := by
  unfold opMulX opMul
  dsimp only
  rw [if_neg (by rintro ⟨_, _, h | h⟩; cases h; omega), if_pos ⟨by simp, by omega, by omega, by simp⟩, Int.toNat_natCast, flat1]
theorem end_ok {K : PySem.W.Frag} {tg Pt : Addr} {gr fs : D} {ds w1 w2 : List D} (m300 : opMulX FZ (.tup [.int 1]) (.int 300) [] = .ok (.tup w1) []) (m301 : opMulX FZ (.tup [.int 1]) (.int 301) [] = .ok (.tup w2) []) (h1 : F_folded_graph [.int 1, .tup [.tup w1]] [] = .ok (.tup [gr, fs]) []) (hgr : seqL [] gr = some ds) (hlen : ds.length = 300) (hs : ∀ x, gr ≠ .str x)
    (h2 : F_folded_graph [.int 1, .tup [.tup w2]] [] = .exc (.int 2) []) {D : L2.Ends} {σ : L2.St} {H : Hp} (hT : LamX.Tabs (tabs0 Pt) H) (hl : σ.length = 17) (hD : ∀ H', D.rt (.bl true) H') : t_end K tg Pt D σ H := by
  have one : (1 : Nat) ≤ sizeLine := by decide
  have e1 : ∀ env, e_lam1 env [] = .ok (.int 300) [] := fun env => by
    simp only [e_lam1, eCB, aCons, aNil, Hx.e2, eC, eTup, R.bind_ok, List.length_cons, List.length_nil, Nat.zero_add, one, if_true, m300, h1]
    have : opIx (.tup [gr, fs]) (.int 0) [] = .ok gr [] := rfl
    rw [this, R.bind_ok, R.bind_ok]
    unfold biLen
    split
    · rename_i x hx
      cases hx
      exact absurd rfl (hs x)
    · rename_i x hx
      cases hx
      rw [hgr]
      dsimp only
      rw [hlen]
      rfl
    · rename_i z1 z2
      exact absurd rfl (z2 gr)
  have e2 : ∀ env, e_lam2 env [] = .exc (.int 2) [] := fun env => by
    simp only [e_lam2, eCB, aCons, aNil, Hx.e2, eC, eTup, R.bind_ok, List.length_cons, List.length_nil, Nat.zero_add, one, if_true, m301, h2]
  refine ⟨hT, fun H1 x1 T1 => ⟨W0 H1, [], _, rfl, W0.ok K H1, W0.ev K H1 σ, ?_⟩⟩
  rw [e1]
  intro W' t l s r
  obtain rfl : t = V.int 300 := r
  refine ⟨by show 2 ≤ sizeLine; decide, fun q hq => ⟨by show 1 ≤ sizeLine; decide, fun p hp => ?_⟩⟩
  have T2 : LamX.Tabs (tabs0 Pt) (upd (upd W'.H q (.tup [.str "told", .int 300])) p (.lst [.ref q])) := tabs_upd hp (tabs_upd hq (W0.tabs l T1))
  have pq : q ≠ p := fun z => by rw [z, upd_same] at hp; cases hp
  refine ⟨.ref p, List.getElem?_set_self (by omega), .inl ⟨rfl, _, .inl (.inl upd_same)⟩, T2, fun H3 x3 T3 => ?_⟩
  have k3 : H3 p = some (.lst [.ref q]) := x3 _ _ upd_same (fun _ e => nomatch e)
  have k3q : H3 q = some (.tup [.str "told", .int 300]) := x3 _ _ (by rw [upd_ne pq, upd_same]) (fun _ e => nomatch e)
  refine ⟨W0 H3, [], _, rfl, W0.ok K H3, W0.ev K H3 _, ?_⟩
  rw [e2]
  intro W2 a v l2 s2 ha r2
  obtain rfl : v = V.int 2 := r2
  refine ⟨rfl, a, .int 2, rfl, ha, fun q2 hq2 => ?_⟩
  have k4 : W2.H p = some (.lst [.ref q]) := W0.kept l2 k3 (fun z => z)
  have k4q : W2.H q = some (.tup [.str "told", .int 300]) := W0.kept l2 k3q (fun z => z)
  have np : p ≠ q2 := ne_of_none k4 hq2
  have nq : q ≠ q2 := ne_of_none k4q hq2
  refine ⟨p, [.ref q], .ref q2, rfl, rfl, by rw [upd_ne np]; exact k4, by show 1 < sizeLine; decide, ?_⟩
  have m1 : (upd (upd W2.H q2 (.tup [.str "great", .int 2])) p (.lst ([.ref q] ++ [.ref q2]))) p = some (.lst [.ref q, .ref q2]) := upd_same
  have m2 : (upd (upd W2.H q2 (.tup [.str "great", .int 2])) p (.lst ([.ref q] ++ [.ref q2]))) q = some (.tup [.str "told", .int 300]) := by
    rw [upd_ne pq, upd_ne nq]
    exact k4q
  have m3 : (upd (upd W2.H q2 (.tup [.str "great", .int 2])) p (.lst ([.ref q] ++ [.ref q2]))) q2 = some (.tup [.str "great", .int 2]) := by
    rw [upd_ne np.symm, upd_same]
  generalize upd (upd W2.H q2 (.tup [.str "great", .int 2])) p (.lst ([.ref q] ++ [.ref q2])) = H4 at m1 m2 m3
  have two : ∀ x : V, ([x, x] : List V).length ≤ sizeLine := fun x => by
    show 2 ≤ sizeLine
    decide
  have hd : Dp K H4 (.ref p) (.list [.tuple [.str "told", .int 300], .tuple [.str "great", .int 2]]) :=
    .lst (.inl (.inl m1)) (.cons (.tup (.inl (.inl m2)) (.cons (.str _) (.cons (.int _) .nil))) (.cons (.tup (.inl (.inl m3)) (.cons (.str _) (.cons (.int _) .nil))) .nil))
  have hsh := hsh0
  refine ⟨.ref p, List.getElem?_set_self (by omega), p, _, rfl, hd, hsh, ?_⟩
  refine ⟨by show 2 ≤ sizeLine; decide, fun a1 b1 => ⟨by show 2 ≤ sizeLine; decide, fun a2 b2 => ⟨by show 2 ≤ sizeLine; decide, fun a3 b3 => ?_⟩⟩⟩
  have n12 : a1 ≠ a2 := fun z => by rw [z, upd_same] at b2; cases b2
  have n13 : a1 ≠ a3 := fun z => by
    rw [z] at n12 b3
    rw [upd_ne n12, upd_same] at b3
    cases b3
  have n23 : a2 ≠ a3 := fun z => by rw [z, upd_same] at b3; cases b3
  refine ⟨a3, _, rfl, .lst (.inl (.inl upd_same)) (.cons (.tup (xs := [.str "told", .int 300]) (.inl (.inl (by rw [upd_ne n13, upd_ne n12, upd_same]))) (.cons (.str _) (.cons (.int _) .nil))) (.cons (.tup (xs := [.str "great", .int 2]) (.inl (.inl (by rw [upd_ne n23, upd_same]))) (.cons (.str _) (.cons (.int _) .nil))) .nil)), hsh, rfl, ?_⟩
  rw [decide_eq_true rfl]
  exact hD _
end K48
set_option Elab.async false
set_option linter.all false
set_option maxRecDepth 100000
set_option maxHeartbeats 4000000
namespace K48
open PySem PySem.Spec PyProof.Rows L2 Hx
theorem exm_own {K : PySem.W.Frag} {S : Addr} (h1 : PySem.W.subIn K (.ref S) (.type "BaseException") = some true) (h2 : PySem.W.isClsIn K S = true) (h3 : PySem.W.typeIn K (.ref S) = some (.type "type")) (h4 : PySem.W.subIn K (.ref S) (.ref S) = some true) :
    PySem.W.exmOne K (.ref S) (.ref S) = some true := by
  have e1 : (PySem.W.subIn K (.ref S) (.type "BaseException") == some true) = true := by rw [h1] <;> rfl
  have e2 : ((PySem.W.clsIn K S).isSome && PySem.W.typeIn K (.ref S) == some (.type "type")) = true := by
    have h2' : (PySem.W.clsIn K S).isSome = true := h2
    rw [h2', h3] <;> rfl
  unfold PySem.W.exmOne PySem.W.kitCls
  simp only [e1, e2, if_true, h4]
theorem tabIn_of {K : PySem.W.Frag} {x : Str} {f c Pt : Addr} {oc e : Value} {od dd : Option Addr} {fd : FuncData} {osl sl : Array (Option Value)} {vs : Array Value} (h1 : PySem.W.nsIn K mainGlobals x = some (some (.ref f))) (h2 : K.lookup f = some ⟨oc, od, .func fd, osl⟩) (h3 : fd.code = .ref c) (h4 : K.lookup c = some ⟨e, dd, .fields vs, sl⟩) (h5 : vs[11]? = some (.ref Pt)) : PySem.W.tabIn K x = some (c, Pt) := by
  unfold PySem.W.tabIn
  rw [h1]
  dsimp only
  rw [h2]
  dsimp only
  rw [h3]
  dsimp only
  rw [h4]
  dsimp only
  rw [h5]
theorem last_read {K : PySem.W.Frag} {H : Hp} {a Pt tg : Addr} {ns : List Int} {E : XK} (hlen : ns.length ≤ 63) (hP : H Pt = some (.tbl #[])) (hS : Rd H a (.lst (ns.map V.int)) ∨ WrL K a (ns.map V.int)) :
    tSeq (tS K tg E u_law) (t_end K tg Pt) { nx := fun _ _ => V.non = .bl true, rt := fun v _ => v = .bl true } (L2.start N_law [.ref a]) H := by
  have rs : Rep K (W0 H) (.scr ns) (.ref a) := ⟨a, rfl, by
    rcases hS with h | h
    · exact .inl ⟨h, W0.free H a⟩
    · exact .inr h⟩
  refine ⟨W0 H, [], some (.scr ns) :: List.replicate 16 none, rfl, W0.ok K H, evR_start (ds := [.scr ns]) (vs := [.ref a]) ⟨.ref a, [], rfl, rs, rfl⟩ 16, ?_⟩
  obtain ⟨gr, fs, ds, f1, f2, _⟩ := fg300
  rcases law_true ns hlen with ⟨S, e⟩ | ⟨env, S, el, e⟩
  · rw [e]
    exact fun W' v l s r => r
  · rw [e]
    intro W' σ' l s ev
    refine end_ok (K := K) (m300 := mulX 300 (by decide) (by decide)) (m301 := mulX 301 (by decide) (by decide)) f1 rfl f2 (fun x => by simp) fg301 (W0.tabs l fun p hp => ?_) (by rw [← ev.1]; exact el) (fun H' => rfl)
    obtain rfl := List.mem_singleton.mp hp
    exact LamX.TabS.nil hP
theorem all_mk {w : World} {K : PySem.W.Frag} {h : Heap} {mg : Str → Option Value} {fa tg fI : Addr} (X : K.In h) (G : h.Ns mainGlobals mg) (hfa : mg "law" = some (.ref fa))
    {fd0 : Addr} {ocd0 kVd0 dcd0 pmd0 cdd0 ctd0 : Value} {odd0 and0 : Option Addr} {sld0 : Array (Option Value)}
    (ad0 : PySem.W.nsIn K mainGlobals "act_signs" = some (some (.ref fd0))) (ld0 : K.lookup fd0 = some ⟨ocd0, odd0, .func (PySem.W.fnOf "act_signs" "act_signs" (defArgs s_act_signs) (defBody s_act_signs) (defScope s_act_signs) .none kVd0 dcd0 pmd0 and0 cdd0 ctd0), sld0⟩) (cd0 : PySem.W.codeIn K cdd0 "act_signs" = true) (kd0 : PySem.W.keepIn K (.ref fd0) = true)
    {fd1 : Addr} {ocd1 kVd1 dcd1 pmd1 cdd1 ctd1 : Value} {odd1 and1 : Option Addr} {sld1 : Array (Option Value)}
    (ad1 : PySem.W.nsIn K mainGlobals "rose_edges" = some (some (.ref fd1))) (ld1 : K.lookup fd1 = some ⟨ocd1, odd1, .func (PySem.W.fnOf "rose_edges" "rose_edges" (defArgs s_rose_edges) (defBody s_rose_edges) (defScope s_rose_edges) .none kVd1 dcd1 pmd1 and1 cdd1 ctd1), sld1⟩) (cd1 : PySem.W.codeIn K cdd1 "rose_edges" = true) (kd1 : PySem.W.keepIn K (.ref fd1) = true)
    {fd2 : Addr} {ocd2 kVd2 dcd2 pmd2 cdd2 ctd2 : Value} {odd2 and2 : Option Addr} {sld2 : Array (Option Value)}
    (ad2 : PySem.W.nsIn K mainGlobals "ends_of" = some (some (.ref fd2))) (ld2 : K.lookup fd2 = some ⟨ocd2, odd2, .func (PySem.W.fnOf "ends_of" "ends_of" (defArgs s_ends_of) (defBody s_ends_of) (defScope s_ends_of) .none kVd2 dcd2 pmd2 and2 cdd2 ctd2), sld2⟩) (cd2 : PySem.W.codeIn K cdd2 "ends_of" = true) (kd2 : PySem.W.keepIn K (.ref fd2) = true)
    {fd3 : Addr} {ocd3 kVd3 dcd3 pmd3 cdd3 ctd3 : Value} {odd3 and3 : Option Addr} {sld3 : Array (Option Value)}
    (ad3 : PySem.W.nsIn K mainGlobals "couples_to_fold" = some (some (.ref fd3))) (ld3 : K.lookup fd3 = some ⟨ocd3, odd3, .func (PySem.W.fnOf "couples_to_fold" "couples_to_fold" (defArgs s_couples_to_fold) (defBody s_couples_to_fold) (defScope s_couples_to_fold) .none kVd3 dcd3 pmd3 and3 cdd3 ctd3), sld3⟩) (cd3 : PySem.W.codeIn K cdd3 "couples_to_fold" = true) (kd3 : PySem.W.keepIn K (.ref fd3) = true)
    {fd4 : Addr} {ocd4 kVd4 dcd4 pmd4 cdd4 ctd4 : Value} {odd4 and4 : Option Addr} {sld4 : Array (Option Value)}
    (ad4 : PySem.W.nsIn K mainGlobals "folded_once" = some (some (.ref fd4))) (ld4 : K.lookup fd4 = some ⟨ocd4, odd4, .func (PySem.W.fnOf "folded_once" "folded_once" (defArgs s_folded_once) (defBody s_folded_once) (defScope s_folded_once) .none kVd4 dcd4 pmd4 and4 cdd4 ctd4), sld4⟩) (cd4 : PySem.W.codeIn K cdd4 "folded_once" = true) (kd4 : PySem.W.keepIn K (.ref fd4) = true)
    {fd5 : Addr} {ocd5 kVd5 dcd5 pmd5 cdd5 ctd5 : Value} {odd5 and5 : Option Addr} {sld5 : Array (Option Value)}
    (ad5 : PySem.W.nsIn K mainGlobals "folded_edges" = some (some (.ref fd5))) (ld5 : K.lookup fd5 = some ⟨ocd5, odd5, .func (PySem.W.fnOf "folded_edges" "folded_edges" (defArgs s_folded_edges) (defBody s_folded_edges) (defScope s_folded_edges) .none kVd5 dcd5 pmd5 and5 cdd5 ctd5), sld5⟩) (cd5 : PySem.W.codeIn K cdd5 "folded_edges" = true) (kd5 : PySem.W.keepIn K (.ref fd5) = true)
    {fd6 : Addr} {ocd6 kVd6 dcd6 pmd6 cdd6 ctd6 : Value} {odd6 and6 : Option Addr} {sld6 : Array (Option Value)}
    (ad6 : PySem.W.nsIn K mainGlobals "numbered_graph" = some (some (.ref fd6))) (ld6 : K.lookup fd6 = some ⟨ocd6, odd6, .func (PySem.W.fnOf "numbered_graph" "numbered_graph" (defArgs s_numbered_graph) (defBody s_numbered_graph) (defScope s_numbered_graph) .none kVd6 dcd6 pmd6 and6 cdd6 ctd6), sld6⟩) (cd6 : PySem.W.codeIn K cdd6 "numbered_graph" = true) (kd6 : PySem.W.keepIn K (.ref fd6) = true)
    {fd7 : Addr} {ocd7 kVd7 dcd7 pmd7 cdd7 ctd7 : Value} {odd7 and7 : Option Addr} {sld7 : Array (Option Value)}
    (ad7 : PySem.W.nsIn K mainGlobals "folded_graph" = some (some (.ref fd7))) (ld7 : K.lookup fd7 = some ⟨ocd7, odd7, .func (PySem.W.fnOf "folded_graph" "folded_graph" (defArgs s_folded_graph) (defBody s_folded_graph) (defScope s_folded_graph) .none kVd7 dcd7 pmd7 and7 cdd7 ctd7), sld7⟩) (cd7 : PySem.W.codeIn K cdd7 "folded_graph" = true) (kd7 : PySem.W.keepIn K (.ref fd7) = true)
    {fd8 : Addr} {ocd8 kVd8 dcd8 pmd8 cdd8 ctd8 : Value} {odd8 and8 : Option Addr} {sld8 : Array (Option Value)}
    (ad8 : PySem.W.nsIn K mainGlobals "read_on" = some (some (.ref fd8))) (ld8 : K.lookup fd8 = some ⟨ocd8, odd8, .func (PySem.W.fnOf "read_on" "read_on" (defArgs s_read_on) (defBody s_read_on) (defScope s_read_on) .none kVd8 dcd8 pmd8 and8 cdd8 ctd8), sld8⟩) (cd8 : PySem.W.codeIn K cdd8 "read_on" = true) (kd8 : PySem.W.keepIn K (.ref fd8) = true)
    {fd9 : Addr} {ocd9 kVd9 dcd9 pmd9 cdd9 ctd9 : Value} {odd9 and9 : Option Addr} {sld9 : Array (Option Value)}
    (ad9 : PySem.W.nsIn K mainGlobals "read_row" = some (some (.ref fd9))) (ld9 : K.lookup fd9 = some ⟨ocd9, odd9, .func (PySem.W.fnOf "read_row" "read_row" (defArgs s_read_row) (defBody s_read_row) (defScope s_read_row) .none kVd9 dcd9 pmd9 and9 cdd9 ctd9), sld9⟩) (cd9 : PySem.W.codeIn K cdd9 "read_row" = true) (kd9 : PySem.W.keepIn K (.ref fd9) = true)
    {fd10 : Addr} {ocd10 kVd10 dcd10 pmd10 cdd10 ctd10 : Value} {odd10 and10 : Option Addr} {sld10 : Array (Option Value)}
    (ad10 : PySem.W.nsIn K mainGlobals "is_member" = some (some (.ref fd10))) (ld10 : K.lookup fd10 = some ⟨ocd10, odd10, .func (PySem.W.fnOf "is_member" "is_member" (defArgs s_is_member) (defBody s_is_member) (defScope s_is_member) .none kVd10 dcd10 pmd10 and10 cdd10 ctd10), sld10⟩) (cd10 : PySem.W.codeIn K cdd10 "is_member" = true) (kd10 : PySem.W.keepIn K (.ref fd10) = true)
    {fd11 : Addr} {ocd11 kVd11 dcd11 pmd11 cdd11 ctd11 : Value} {odd11 and11 : Option Addr} {sld11 : Array (Option Value)}
    (ad11 : PySem.W.nsIn K mainGlobals "edges_told" = some (some (.ref fd11))) (ld11 : K.lookup fd11 = some ⟨ocd11, odd11, .func (PySem.W.fnOf "edges_told" "edges_told" (defArgs s_edges_told) (defBody s_edges_told) (defScope s_edges_told) .none kVd11 dcd11 pmd11 and11 cdd11 ctd11), sld11⟩) (cd11 : PySem.W.codeIn K cdd11 "edges_told" = true) (kd11 : PySem.W.keepIn K (.ref fd11) = true)
    {fd12 : Addr} {ocd12 kVd12 dcd12 pmd12 cdd12 ctd12 : Value} {odd12 and12 : Option Addr} {sld12 : Array (Option Value)}
    (ad12 : PySem.W.nsIn K mainGlobals "group_rank" = some (some (.ref fd12))) (ld12 : K.lookup fd12 = some ⟨ocd12, odd12, .func (PySem.W.fnOf "group_rank" "group_rank" (defArgs s_group_rank) (defBody s_group_rank) (defScope s_group_rank) .none kVd12 dcd12 pmd12 and12 cdd12 ctd12), sld12⟩) (cd12 : PySem.W.codeIn K cdd12 "group_rank" = true) (kd12 : PySem.W.keepIn K (.ref fd12) = true)
    {fd13 : Addr} {ocd13 kVd13 dcd13 pmd13 cdd13 ctd13 : Value} {odd13 and13 : Option Addr} {sld13 : Array (Option Value)}
    (ad13 : PySem.W.nsIn K mainGlobals "group_index" = some (some (.ref fd13))) (ld13 : K.lookup fd13 = some ⟨ocd13, odd13, .func (PySem.W.fnOf "group_index" "group_index" (defArgs s_group_index) (defBody s_group_index) (defScope s_group_index) .none kVd13 dcd13 pmd13 and13 cdd13 ctd13), sld13⟩) (cd13 : PySem.W.codeIn K cdd13 "group_index" = true) (kd13 : PySem.W.keepIn K (.ref fd13) = true)
    {fd14 : Addr} {ocd14 kVd14 dcd14 pmd14 cdd14 ctd14 : Value} {odd14 and14 : Option Addr} {sld14 : Array (Option Value)}
    (ad14 : PySem.W.nsIn K mainGlobals "_law_source" = some (some (.ref fd14))) (ld14 : K.lookup fd14 = some ⟨ocd14, odd14, .func (PySem.W.fnOf "_law_source" "_law_source" (defArgs s__law_source) (defBody s__law_source) (defScope s__law_source) .none kVd14 dcd14 pmd14 and14 cdd14 ctd14), sld14⟩) (cd14 : PySem.W.codeIn K cdd14 "_law_source" = true) (kd14 : PySem.W.keepIn K (.ref fd14) = true)
    {fd15 : Addr} {ocd15 kVd15 dcd15 pmd15 cdd15 ctd15 : Value} {odd15 and15 : Option Addr} {sld15 : Array (Option Value)}
    (ad15 : PySem.W.nsIn K mainGlobals "_law_pick" = some (some (.ref fd15))) (ld15 : K.lookup fd15 = some ⟨ocd15, odd15, .func (PySem.W.fnOf "_law_pick" "_law_pick" (defArgs s__law_pick) (defBody s__law_pick) (defScope s__law_pick) .none kVd15 dcd15 pmd15 and15 cdd15 ctd15), sld15⟩) (cd15 : PySem.W.codeIn K cdd15 "_law_pick" = true) (kd15 : PySem.W.keepIn K (.ref fd15) = true)
    {fd16 : Addr} {ocd16 kVd16 dcd16 pmd16 cdd16 ctd16 : Value} {odd16 and16 : Option Addr} {sld16 : Array (Option Value)}
    (ad16 : PySem.W.nsIn K mainGlobals "_law_of" = some (some (.ref fd16))) (ld16 : K.lookup fd16 = some ⟨ocd16, odd16, .func (PySem.W.fnOf "_law_of" "_law_of" (defArgs s__law_of) (defBody s__law_of) (defScope s__law_of) .none kVd16 dcd16 pmd16 and16 cdd16 ctd16), sld16⟩) (cd16 : PySem.W.codeIn K cdd16 "_law_of" = true) (kd16 : PySem.W.keepIn K (.ref fd16) = true)
    {fd17 : Addr} {ocd17 kVd17 dcd17 pmd17 cdd17 ctd17 : Value} {odd17 and17 : Option Addr} {sld17 : Array (Option Value)}
    (ad17 : PySem.W.nsIn K mainGlobals "_law_mixed" = some (some (.ref fd17))) (ld17 : K.lookup fd17 = some ⟨ocd17, odd17, .func (PySem.W.fnOf "_law_mixed" "_law_mixed" (defArgs s__law_mixed) (defBody s__law_mixed) (defScope s__law_mixed) .none kVd17 dcd17 pmd17 and17 cdd17 ctd17), sld17⟩) (cd17 : PySem.W.codeIn K cdd17 "_law_mixed" = true) (kd17 : PySem.W.keepIn K (.ref fd17) = true)
    {fd18 : Addr} {ocd18 kVd18 dcd18 pmd18 cdd18 ctd18 : Value} {odd18 and18 : Option Addr} {sld18 : Array (Option Value)}
    (ad18 : PySem.W.nsIn K mainGlobals "_law_net" = some (some (.ref fd18))) (ld18 : K.lookup fd18 = some ⟨ocd18, odd18, .func (PySem.W.fnOf "_law_net" "_law_net" (defArgs s__law_net) (defBody s__law_net) (defScope s__law_net) .none kVd18 dcd18 pmd18 and18 cdd18 ctd18), sld18⟩) (cd18 : PySem.W.codeIn K cdd18 "_law_net" = true) (kd18 : PySem.W.keepIn K (.ref fd18) = true)
    {fd19 : Addr} {ocd19 kVd19 dcd19 pmd19 cdd19 ctd19 : Value} {odd19 and19 : Option Addr} {sld19 : Array (Option Value)}
    (ad19 : PySem.W.nsIn K mainGlobals "_law_undone" = some (some (.ref fd19))) (ld19 : K.lookup fd19 = some ⟨ocd19, odd19, .func (PySem.W.fnOf "_law_undone" "_law_undone" (defArgs s__law_undone) (defBody s__law_undone) (defScope s__law_undone) .none kVd19 dcd19 pmd19 and19 cdd19 ctd19), sld19⟩) (cd19 : PySem.W.codeIn K cdd19 "_law_undone" = true) (kd19 : PySem.W.keepIn K (.ref fd19) = true)
    {fd20 : Addr} {ocd20 kVd20 dcd20 pmd20 cdd20 ctd20 : Value} {odd20 and20 : Option Addr} {sld20 : Array (Option Value)}
    (ad20 : PySem.W.nsIn K mainGlobals "_law_doing" = some (some (.ref fd20))) (ld20 : K.lookup fd20 = some ⟨ocd20, odd20, .func (PySem.W.fnOf "_law_doing" "_law_doing" (defArgs s__law_doing) (defBody s__law_doing) (defScope s__law_doing) .none kVd20 dcd20 pmd20 and20 cdd20 ctd20), sld20⟩) (cd20 : PySem.W.codeIn K cdd20 "_law_doing" = true) (kd20 : PySem.W.keepIn K (.ref fd20) = true)
    {fd21 : Addr} {ocd21 kVd21 dcd21 pmd21 cdd21 ctd21 : Value} {odd21 and21 : Option Addr} {sld21 : Array (Option Value)}
    (ad21 : PySem.W.nsIn K mainGlobals "_law_doings" = some (some (.ref fd21))) (ld21 : K.lookup fd21 = some ⟨ocd21, odd21, .func (PySem.W.fnOf "_law_doings" "_law_doings" (defArgs s__law_doings) (defBody s__law_doings) (defScope s__law_doings) .none kVd21 dcd21 pmd21 and21 cdd21 ctd21), sld21⟩) (cd21 : PySem.W.codeIn K cdd21 "_law_doings" = true) (kd21 : PySem.W.keepIn K (.ref fd21) = true)
    {fd22 : Addr} {ocd22 kVd22 dcd22 pmd22 cdd22 ctd22 : Value} {odd22 and22 : Option Addr} {sld22 : Array (Option Value)}
    (ad22 : PySem.W.nsIn K mainGlobals "_law_rose" = some (some (.ref fd22))) (ld22 : K.lookup fd22 = some ⟨ocd22, odd22, .func (PySem.W.fnOf "_law_rose" "_law_rose" (defArgs s__law_rose) (defBody s__law_rose) (defScope s__law_rose) .none kVd22 dcd22 pmd22 and22 cdd22 ctd22), sld22⟩) (cd22 : PySem.W.codeIn K cdd22 "_law_rose" = true) (kd22 : PySem.W.keepIn K (.ref fd22) = true)
    {fd23 : Addr} {ocd23 kVd23 dcd23 pmd23 cdd23 ctd23 : Value} {odd23 and23 : Option Addr} {sld23 : Array (Option Value)}
    (ad23 : PySem.W.nsIn K mainGlobals "_law_couples" = some (some (.ref fd23))) (ld23 : K.lookup fd23 = some ⟨ocd23, odd23, .func (PySem.W.fnOf "_law_couples" "_law_couples" (defArgs s__law_couples) (defBody s__law_couples) (defScope s__law_couples) .none kVd23 dcd23 pmd23 and23 cdd23 ctd23), sld23⟩) (cd23 : PySem.W.codeIn K cdd23 "_law_couples" = true) (kd23 : PySem.W.keepIn K (.ref fd23) = true)
    {fd24 : Addr} {ocd24 kVd24 dcd24 pmd24 cdd24 ctd24 : Value} {odd24 and24 : Option Addr} {sld24 : Array (Option Value)}
    (ad24 : PySem.W.nsIn K mainGlobals "_law_merged" = some (some (.ref fd24))) (ld24 : K.lookup fd24 = some ⟨ocd24, odd24, .func (PySem.W.fnOf "_law_merged" "_law_merged" (defArgs s__law_merged) (defBody s__law_merged) (defScope s__law_merged) .none kVd24 dcd24 pmd24 and24 cdd24 ctd24), sld24⟩) (cd24 : PySem.W.codeIn K cdd24 "_law_merged" = true) (kd24 : PySem.W.keepIn K (.ref fd24) = true)
    {fd25 : Addr} {ocd25 kVd25 dcd25 pmd25 cdd25 ctd25 : Value} {odd25 and25 : Option Addr} {sld25 : Array (Option Value)}
    (ad25 : PySem.W.nsIn K mainGlobals "_law_folded" = some (some (.ref fd25))) (ld25 : K.lookup fd25 = some ⟨ocd25, odd25, .func (PySem.W.fnOf "_law_folded" "_law_folded" (defArgs s__law_folded) (defBody s__law_folded) (defScope s__law_folded) .none kVd25 dcd25 pmd25 and25 cdd25 ctd25), sld25⟩) (cd25 : PySem.W.codeIn K cdd25 "_law_folded" = true) (kd25 : PySem.W.keepIn K (.ref fd25) = true)
    {fd26 : Addr} {ocd26 kVd26 dcd26 pmd26 cdd26 ctd26 : Value} {odd26 and26 : Option Addr} {sld26 : Array (Option Value)}
    (ad26 : PySem.W.nsIn K mainGlobals "_law_signs" = some (some (.ref fd26))) (ld26 : K.lookup fd26 = some ⟨ocd26, odd26, .func (PySem.W.fnOf "_law_signs" "_law_signs" (defArgs s__law_signs) (defBody s__law_signs) (defScope s__law_signs) .none kVd26 dcd26 pmd26 and26 cdd26 ctd26), sld26⟩) (cd26 : PySem.W.codeIn K cdd26 "_law_signs" = true) (kd26 : PySem.W.keepIn K (.ref fd26) = true)
    {fd27 : Addr} {ocd27 kVd27 dcd27 pmd27 cdd27 ctd27 : Value} {odd27 and27 : Option Addr} {sld27 : Array (Option Value)}
    (ad27 : PySem.W.nsIn K mainGlobals "_law_on" = some (some (.ref fd27))) (ld27 : K.lookup fd27 = some ⟨ocd27, odd27, .func (PySem.W.fnOf "_law_on" "_law_on" (defArgs s__law_on) (defBody s__law_on) (defScope s__law_on) .none kVd27 dcd27 pmd27 and27 cdd27 ctd27), sld27⟩) (cd27 : PySem.W.codeIn K cdd27 "_law_on" = true) (kd27 : PySem.W.keepIn K (.ref fd27) = true)
    {fd28 : Addr} {ocd28 kVd28 dcd28 pmd28 cdd28 ctd28 : Value} {odd28 and28 : Option Addr} {sld28 : Array (Option Value)}
    (ad28 : PySem.W.nsIn K mainGlobals "_law_graph" = some (some (.ref fd28))) (ld28 : K.lookup fd28 = some ⟨ocd28, odd28, .func (PySem.W.fnOf "_law_graph" "_law_graph" (defArgs s__law_graph) (defBody s__law_graph) (defScope s__law_graph) .none kVd28 dcd28 pmd28 and28 cdd28 ctd28), sld28⟩) (cd28 : PySem.W.codeIn K cdd28 "_law_graph" = true) (kd28 : PySem.W.keepIn K (.ref fd28) = true)
    {fd29 : Addr} {ocd29 kVd29 dcd29 pmd29 cdd29 ctd29 : Value} {odd29 and29 : Option Addr} {sld29 : Array (Option Value)}
    (ad29 : PySem.W.nsIn K mainGlobals "_law_read" = some (some (.ref fd29))) (ld29 : K.lookup fd29 = some ⟨ocd29, odd29, .func (PySem.W.fnOf "_law_read" "_law_read" (defArgs s__law_read) (defBody s__law_read) (defScope s__law_read) .none kVd29 dcd29 pmd29 and29 cdd29 ctd29), sld29⟩) (cd29 : PySem.W.codeIn K cdd29 "_law_read" = true) (kd29 : PySem.W.keepIn K (.ref fd29) = true)
    {fd30 : Addr} {ocd30 kVd30 dcd30 pmd30 cdd30 ctd30 : Value} {odd30 and30 : Option Addr} {sld30 : Array (Option Value)}
    (ad30 : PySem.W.nsIn K mainGlobals "_law_others" = some (some (.ref fd30))) (ld30 : K.lookup fd30 = some ⟨ocd30, odd30, .func (PySem.W.fnOf "_law_others" "_law_others" (defArgs s__law_others) (defBody s__law_others) (defScope s__law_others) .none kVd30 dcd30 pmd30 and30 cdd30 ctd30), sld30⟩) (cd30 : PySem.W.codeIn K cdd30 "_law_others" = true) (kd30 : PySem.W.keepIn K (.ref fd30) = true)
    {fd31 : Addr} {ocd31 kVd31 dcd31 pmd31 cdd31 ctd31 : Value} {odd31 and31 : Option Addr} {sld31 : Array (Option Value)}
    (ad31 : PySem.W.nsIn K mainGlobals "law" = some (some (.ref fd31))) (ld31 : K.lookup fd31 = some ⟨ocd31, odd31, .func (PySem.W.fnOf "law" "law" (defArgs s_law) (defBody s_law) (defScope s_law) .none kVd31 dcd31 pmd31 and31 cdd31 ctd31), sld31⟩) (cd31 : PySem.W.codeIn K cdd31 "law" = true) (kd31 : PySem.W.keepIn K (.ref fd31) = true)
    {fd32 : Addr} {ocd32 kVd32 dcd32 pmd32 cdd32 ctd32 : Value} {odd32 and32 : Option Addr} {sld32 : Array (Option Value)}
    (ad32 : PySem.W.nsIn K mainGlobals "_law_told" = some (some (.ref fd32))) (ld32 : K.lookup fd32 = some ⟨ocd32, odd32, .func (PySem.W.fnOf "_law_told" "_law_told" (defArgs s__law_told) (defBody s__law_told) (defScope s__law_told) .none kVd32 dcd32 pmd32 and32 cdd32 ctd32), sld32⟩) (cd32 : PySem.W.codeIn K cdd32 "_law_told" = true) (kd32 : PySem.W.keepIn K (.ref fd32) = true)
    (z0 : PySem.W.nsIn K mainGlobals "abs" = some none)
    (z1 : PySem.W.nsIn K mainGlobals "dict" = some none)
    (z2 : PySem.W.nsIn K mainGlobals "enumerate" = some none)
    (z3 : PySem.W.nsIn K mainGlobals "int" = some none)
    (z4 : PySem.W.nsIn K mainGlobals "len" = some none)
    (z5 : PySem.W.nsIn K mainGlobals "list" = some none)
    (z6 : PySem.W.nsIn K mainGlobals "max" = some none)
    (z7 : PySem.W.nsIn K mainGlobals "range" = some none)
    (z8 : PySem.W.nsIn K mainGlobals "repr" = some none)
    (z9 : PySem.W.nsIn K mainGlobals "sorted" = some none)
    (z10 : PySem.W.nsIn K mainGlobals "tuple" = some none)
    (z11 : PySem.W.nsIn K mainGlobals "super" = some none)
    {t0 : Tok} (y0 : PySem.W.nsIn K mainGlobals "MOST_PLACES" = some (some (.int 300 t0)))
    {t1 : Tok} (y1 : PySem.W.nsIn K mainGlobals "TOO_MANY" = some (some (.int 2 t1)))
    {cl Pt : Addr} (ecl : cdd31 = .ref cl) {te1 : Value} {te2 : Option Addr} {te3 : Array Value} {te4 : Array (Option Value)} (tl : K.lookup cl = some ⟨te1, te2, .fields te3, te4⟩) (tv : te3[11]? = some (.ref Pt)) (nT : K.lookup Pt = none)
    (aC : PySem.W.nsIn K mainGlobals "TooGreat" = some (some (.ref tg)))
    {nm q : Str} {N : Addr} {bs bm : List Value} {sn : List Str} {sub : List Value} {ab : Bool} {col : Option Bool} {dd : Option Addr} {m0 m1 m2 m3 m5 : Option Value}
    (xL : K.lookup tg = some (excClassObj nm q tg N bs bm true sn sub ab col dd m0 m1 m2 m3 m5 "ValueError.__new__")) (xb : HandSPX.refsVE bm = true)
    (sa : PySem.W.findIn K (.ref tg) "__setattr__" = some (some (.builtin "object.__setattr__"))) (ga : PySem.W.findIn K (.ref tg) "__getattribute__" = some (some (.builtin "BaseException.__getattribute__"))) (gg : PySem.W.findIn K (.ref tg) "__getattr__" = some none) (nb : PySem.W.findIn K (.ref tg) "number" = some none)
    (iC : PySem.W.findIn K (.ref tg) "__init__" = some (some (.ref fI))) (tC : PySem.W.typeIn K (.ref fI) = some (.type "function")) (kC : PySem.W.keepIn K (.ref tg) = true) (exC : PySem.W.subIn K (.ref tg) (.type "BaseException") = some true) (veC : PySem.W.subIn K (.ref tg) (.type "ValueError") = some true)
    (slC : PySem.W.mroIn K tg (.ref tg) = some true) (tyC : PySem.W.typeIn K (.ref tg) = some (.type "type")) (hdC : PySem.W.hasDictIn K tg = true) (te : PySem.W.exmOne K (.ref tg) (.ref tg) = some true) (su : PySem.W.ks_superIn K tg tg "__init__" = some (some (.builtin "ValueError.__init__"))) (opq : PySem.W.nsIn K PySem.cStatics "thirdparty.any" = some none)
    {oci : Value} {odi : Option Addr} {doci pmi : Value} {ani : Option Addr} {cda : Addr} {cti : Value} {cci : Addr} {osli : Array (Option Value)} {ccl : Value} {cdd : Option Addr} {vsc : Array Value} {ccs : Array (Option Value)} {file : Str} {tf : Tok} {clc : Value} {cld : Option Addr} {csl : Array (Option Value)}
    (fl : K.lookup fI = some ⟨oci, odi, .func (PySem.W.ksFn "__init__" "TooGreat.__init__" TooX.iA TooX.iB TooX.iS .none .none doci pmi ani (.ref cda) cti cci), osli⟩) (fc : PySem.W.codeIn K (.ref cda) "TooGreat.__init__" = true) (fd : K.lookup cda = some ⟨ccl, cdd, .fields vsc, ccs⟩) (fe : vsc[2]? = some (.str file tf)) (ff : ((PySem.Challenge.pw_homedoings_k48_folds_in_any_sequence.main.file : Str) == file) = true) (fg : K.lookup cci = some ⟨clc, cld, .cell (some (.ref tg)), csl⟩) :
    LawG PySem.Challenge.rw_homedoings_k48_folds_in_any_sequence w K (L2.CX PySem.Challenge.pw_homedoings_k48_folds_in_any_sequence w) 6 63 "script" "law" mg fa := by
  subst ecl
  have e := hfa.symm.trans (PySem.W.mg_of X G ad31)
  cases e
  have T : Tx PySem.Challenge.pw_homedoings_k48_folds_in_any_sequence K mg tg fI := {
    b_abs := PySem.W.mg_none_of X G z0
    b_dict := PySem.W.mg_none_of X G z1
    b_enumerate := PySem.W.mg_none_of X G z2
    b_int := PySem.W.mg_none_of X G z3
    b_len := PySem.W.mg_none_of X G z4
    b_list := PySem.W.mg_none_of X G z5
    b_max := PySem.W.mg_none_of X G z6
    b_range := PySem.W.mg_none_of X G z7
    b_repr := PySem.W.mg_none_of X G z8
    b_sorted := PySem.W.mg_none_of X G z9
    b_tuple := PySem.W.mg_none_of X G z10
    c_MOST_PLACES := ⟨_, PySem.W.mg_of X G y0⟩
    c_TOO_MANY := ⟨_, PySem.W.mg_of X G y1⟩
    too := { gC := PySem.W.mg_of X G aC, gS := PySem.W.mg_none_of X G z11, cls := ⟨nm, q, N, bs, bm, sn, sub, ab, col, dd, m0, m1, m2, m3, m5, xL, xb⟩, sa := sa, ga := ga, gg := gg, noN := nb, iC := iC, tC := tC, kC := kC, exC := exC, veC := veC, slC := slC, tyC := tyC, hdC := hdC, te := te, su := su, opq := opq, top := rfl, fn := ⟨_, _, _, _, _, _, _, _, _, _, _, _, _, _, _, _, _, _, fl, fc, fd, fe, ff, fg⟩ } }
  have Fd0 := fun_mk (st := s_act_signs) ld0 cd0 kd0
  have Bd0 := Fd0.binds (ps := ["acts"]) fun _ _ _ _ _ _ us hl => match us, hl with | [_], _ => rfl
  have Fd1 := fun_mk (st := s_rose_edges) ld1 cd1 kd1
  have Bd1 := Fd1.binds (ps := ["doings"]) fun _ _ _ _ _ _ us hl => match us, hl with | [_], _ => rfl
  have Fd2 := fun_mk (st := s_ends_of) ld2 cd2 kd2
  have Bd2 := Fd2.binds (ps := ["edges"]) fun _ _ _ _ _ _ us hl => match us, hl with | [_], _ => rfl
  have Fd3 := fun_mk (st := s_couples_to_fold) ld3 cd3 kd3
  have Bd3 := Fd3.binds (ps := ["edges"]) fun _ _ _ _ _ _ us hl => match us, hl with | [_], _ => rfl
  have Fd4 := fun_mk (st := s_folded_once) ld4 cd4 kd4
  have Bd4 := Fd4.binds (ps := ["edges", "couple"]) fun _ _ _ _ _ _ us hl => match us, hl with | [_, _], _ => rfl
  have Fd5 := fun_mk (st := s_folded_edges) ld5 cd5 kd5
  have Bd5 := Fd5.binds (ps := ["edges"]) fun _ _ _ _ _ _ us hl => match us, hl with | [_], _ => rfl
  have Fd6 := fun_mk (st := s_numbered_graph) ld6 cd6 kd6
  have Bd6 := Fd6.binds (ps := ["acts", "edges"]) fun _ _ _ _ _ _ us hl => match us, hl with | [_, _], _ => rfl
  have Fd7 := fun_mk (st := s_folded_graph) ld7 cd7 kd7
  have Bd7 := Fd7.binds (ps := ["acts", "doings"]) fun _ _ _ _ _ _ us hl => match us, hl with | [_, _], _ => rfl
  have Fd8 := fun_mk (st := s_read_on) ld8 cd8 kd8
  have Bd8 := Fd8.binds (ps := ["graph", "place", "sign"]) fun _ _ _ _ _ _ us hl => match us, hl with | [_, _, _], _ => rfl
  have Fd9 := fun_mk (st := s_read_row) ld9 cd9 kd9
  have Bd9 := Fd9.binds (ps := ["graph", "place", "row"]) fun _ _ _ _ _ _ us hl => match us, hl with | [_, _, _], _ => rfl
  have Fd10 := fun_mk (st := s_is_member) ld10 cd10 kd10
  have Bd10 := Fd10.binds (ps := ["graph", "doing"]) fun _ _ _ _ _ _ us hl => match us, hl with | [_, _], _ => rfl
  have Fd11 := fun_mk (st := s_edges_told) ld11 cd11 kd11
  have Bd11 := Fd11.binds (ps := ["graph"]) fun _ _ _ _ _ _ us hl => match us, hl with | [_], _ => rfl
  have Fd12 := fun_mk (st := s_group_rank) ld12 cd12 kd12
  have Bd12 := Fd12.binds (ps := ["graph"]) fun _ _ _ _ _ _ us hl => match us, hl with | [_], _ => rfl
  have Fd13 := fun_mk (st := s_group_index) ld13 cd13 kd13
  have Bd13 := Fd13.binds (ps := ["graph"]) fun _ _ _ _ _ _ us hl => match us, hl with | [_], _ => rfl
  have Fd14 := fun_mk (st := s__law_source) ld14 cd14 kd14
  have Bd14 := Fd14.binds (ps := ["script"]) fun _ _ _ _ _ _ us hl => match us, hl with | [_], _ => rfl
  have Fd15 := fun_mk (st := s__law_pick) ld15 cd15 kd15
  have Bd15 := Fd15.binds (ps := ["source", "many"]) fun _ _ _ _ _ _ us hl => match us, hl with | [_, _], _ => rfl
  have Fd16 := fun_mk (st := s__law_of) ld16 cd16 kd16
  have Bd16 := Fd16.binds (ps := ["source", "some"]) fun _ _ _ _ _ _ us hl => match us, hl with | [_, _], _ => rfl
  have Fd17 := fun_mk (st := s__law_mixed) ld17 cd17 kd17
  have Bd17 := Fd17.binds (ps := ["source", "things"]) fun _ _ _ _ _ _ us hl => match us, hl with | [_, _], _ => rfl
  have Fd18 := fun_mk (st := s__law_net) ld18 cd18 kd18
  have Bd18 := Fd18.binds (ps := ["row"]) fun _ _ _ _ _ _ us hl => match us, hl with | [_], _ => rfl
  have Fd19 := fun_mk (st := s__law_undone) ld19 cd19 kd19
  have Bd19 := Fd19.binds (ps := ["doing"]) fun _ _ _ _ _ _ us hl => match us, hl with | [_], _ => rfl
  have Fd20 := fun_mk (st := s__law_doing) ld20 cd20 kd20
  have Bd20 := Fd20.binds (ps := ["source", "acts", "most"]) fun _ _ _ _ _ _ us hl => match us, hl with | [_, _, _], _ => rfl
  have Fd21 := fun_mk (st := s__law_doings) ld21 cd21 kd21
  have Bd21 := Fd21.binds (ps := ["source", "acts"]) fun _ _ _ _ _ _ us hl => match us, hl with | [_, _], _ => rfl
  have Fd22 := fun_mk (st := s__law_rose) ld22 cd22 kd22
  have Bd22 := Fd22.binds (ps := ["doings"]) fun _ _ _ _ _ _ us hl => match us, hl with | [_], _ => rfl
  have Fd23 := fun_mk (st := s__law_couples) ld23 cd23 kd23
  have Bd23 := Fd23.binds (ps := ["edges"]) fun _ _ _ _ _ _ us hl => match us, hl with | [_], _ => rfl
  have Fd24 := fun_mk (st := s__law_merged) ld24 cd24 kd24
  have Bd24 := Fd24.binds (ps := ["edges", "couple"]) fun _ _ _ _ _ _ us hl => match us, hl with | [_, _], _ => rfl
  have Fd25 := fun_mk (st := s__law_folded) ld25 cd25 kd25
  have Bd25 := Fd25.binds (ps := ["source", "edges", "is_told"]) fun _ _ _ _ _ _ us hl => match us, hl with | [_, _, _], _ => rfl
  have Fd26 := fun_mk (st := s__law_signs) ld26 cd26 kd26
  have Bd26 := Fd26.binds (ps := ["acts"]) fun _ _ _ _ _ _ us hl => match us, hl with | [_], _ => rfl
  have Fd27 := fun_mk (st := s__law_on) ld27 cd27 kd27
  have Bd27 := Fd27.binds (ps := ["edges", "place", "sign"]) fun _ _ _ _ _ _ us hl => match us, hl with | [_, _, _], _ => rfl
  have Fd28 := fun_mk (st := s__law_graph) ld28 cd28 kd28
  have Bd28 := Fd28.binds (ps := ["acts", "edges"]) fun _ _ _ _ _ _ us hl => match us, hl with | [_, _], _ => rfl
  have Fd29 := fun_mk (st := s__law_read) ld29 cd29 kd29
  have Bd29 := Fd29.binds (ps := ["graph", "place", "row"]) fun _ _ _ _ _ _ us hl => match us, hl with | [_, _, _], _ => rfl
  have Fd30 := fun_mk (st := s__law_others) ld30 cd30 kd30
  have Bd30 := Fd30.binds (ps := ["source", "doings"]) fun _ _ _ _ _ _ us hl => match us, hl with | [_, _], _ => rfl
  have Fd31 := fun_mk (st := s_law) ld31 cd31 kd31
  have Bd31 := Fd31.binds (ps := ["script"]) fun _ _ _ _ _ _ us hl => match us, hl with | [_], _ => rfl
  have Fd32 := fun_mk (st := s__law_told) ld32 cd32 kd32
  have Bd32 := Fd32.binds (ps := ["call"]) fun _ _ _ _ _ _ us hl => match us, hl with | [_], _ => rfl
  refine ⟨cl, Pt, _, _, _, _, _, _, _, _, _, _, _, _, _, _, N_law, ld31, cd31, sc_law, tabIn_of ad31 ld31 rfl tl tv, nT, fun s v => .of_eq rfl, fun base H s₁ a ns hlen hK hN TB hP hS hr => ?_⟩
  have Dd0 : DOk PySem.Challenge.pw_homedoings_k48_folds_in_any_sequence w K mg base tg 1 "act_signs" F_act_signs := def_ok Fd0 sc_act_signs (PySem.W.mg_of X G ad0) Bd0 fun cdv A outer s H E hr => b_act_signs T  hr
  have Dd1 : DOk PySem.Challenge.pw_homedoings_k48_folds_in_any_sequence w K mg base tg 1 "rose_edges" F_rose_edges := def_ok Fd1 sc_rose_edges (PySem.W.mg_of X G ad1) Bd1 fun cdv A outer s H E hr => b_rose_edges T  hr
  have Dd2 : DOk PySem.Challenge.pw_homedoings_k48_folds_in_any_sequence w K mg base tg 1 "ends_of" F_ends_of := def_ok Fd2 sc_ends_of (PySem.W.mg_of X G ad2) Bd2 fun cdv A outer s H E hr => b_ends_of T  hr
  have Dd3 : DOk PySem.Challenge.pw_homedoings_k48_folds_in_any_sequence w K mg base tg 2 "couples_to_fold" F_couples_to_fold := def_ok Fd3 sc_couples_to_fold (PySem.W.mg_of X G ad3) Bd3 fun cdv A outer s H E hr => b_couples_to_fold T Dd2 hr
  have Dd4 : DOk PySem.Challenge.pw_homedoings_k48_folds_in_any_sequence w K mg base tg 1 "folded_once" F_folded_once := def_ok Fd4 sc_folded_once (PySem.W.mg_of X G ad4) Bd4 fun cdv A outer s H E hr => b_folded_once T  hr
  have Dd5 : DOk PySem.Challenge.pw_homedoings_k48_folds_in_any_sequence w K mg base tg 3 "folded_edges" F_folded_edges := def_ok Fd5 sc_folded_edges (PySem.W.mg_of X G ad5) Bd5 fun cdv A outer s H E hr => b_folded_edges T Dd3 Dd4 hr
  have Dd6 : DOk PySem.Challenge.pw_homedoings_k48_folds_in_any_sequence w K mg base tg 2 "numbered_graph" F_numbered_graph := def_ok Fd6 sc_numbered_graph (PySem.W.mg_of X G ad6) Bd6 fun cdv A outer s H E hr => b_numbered_graph T Dd0 Dd2 hr
  have Dd7 : DOk PySem.Challenge.pw_homedoings_k48_folds_in_any_sequence w K mg base tg 4 "folded_graph" F_folded_graph := def_ok Fd7 sc_folded_graph (PySem.W.mg_of X G ad7) Bd7 fun cdv A outer s H E hr => b_folded_graph T Dd5 Dd6 Dd1 hr
  have Dd8 : DOk PySem.Challenge.pw_homedoings_k48_folds_in_any_sequence w K mg base tg 1 "read_on" F_read_on := def_ok Fd8 sc_read_on (PySem.W.mg_of X G ad8) Bd8 fun cdv A outer s H E hr => b_read_on T  hr
  have Dd9 : DOk PySem.Challenge.pw_homedoings_k48_folds_in_any_sequence w K mg base tg 2 "read_row" F_read_row := def_ok Fd9 sc_read_row (PySem.W.mg_of X G ad9) Bd9 fun cdv A outer s H E hr => b_read_row T Dd8 hr
  have Dd10 : DOk PySem.Challenge.pw_homedoings_k48_folds_in_any_sequence w K mg base tg 3 "is_member" F_is_member := def_ok Fd10 sc_is_member (PySem.W.mg_of X G ad10) Bd10 fun cdv A outer s H E hr => b_is_member T Dd9 hr
  have Dd11 : DOk PySem.Challenge.pw_homedoings_k48_folds_in_any_sequence w K mg base tg 1 "edges_told" F_edges_told := def_ok Fd11 sc_edges_told (PySem.W.mg_of X G ad11) Bd11 fun cdv A outer s H E hr => b_edges_told T  hr
  have Dd12 : DOk PySem.Challenge.pw_homedoings_k48_folds_in_any_sequence w K mg base tg 2 "group_rank" F_group_rank := def_ok Fd12 sc_group_rank (PySem.W.mg_of X G ad12) Bd12 fun cdv A outer s H E hr => b_group_rank T Dd11 hr
  have Dd13 : DOk PySem.Challenge.pw_homedoings_k48_folds_in_any_sequence w K mg base tg 1 "group_index" F_group_index := def_ok Fd13 sc_group_index (PySem.W.mg_of X G ad13) Bd13 fun cdv A outer s H E hr => b_group_index T  hr
  have Dd14 : DOk PySem.Challenge.pw_homedoings_k48_folds_in_any_sequence w K mg base tg 1 "_law_source" F__law_source := def_raw Fd14 sc__law_source (PySem.W.mg_of X G ad14) Bd14 fun cdv A outer s H E hr => b__law_source T  hr
  have Dd15 : DOk PySem.Challenge.pw_homedoings_k48_folds_in_any_sequence w K mg base tg 1 "_law_pick" F__law_pick := def_ok Fd15 sc__law_pick (PySem.W.mg_of X G ad15) Bd15 fun cdv A outer s H E hr => b__law_pick T  hr
  have Dd16 : DOk PySem.Challenge.pw_homedoings_k48_folds_in_any_sequence w K mg base tg 2 "_law_of" F__law_of := def_ok Fd16 sc__law_of (PySem.W.mg_of X G ad16) Bd16 fun cdv A outer s H E hr => b__law_of T Dd15 hr
  have Dd17 : DOk PySem.Challenge.pw_homedoings_k48_folds_in_any_sequence w K mg base tg 2 "_law_mixed" F__law_mixed := def_ok Fd17 sc__law_mixed (PySem.W.mg_of X G ad17) Bd17 fun cdv A outer s H E hr => b__law_mixed T Dd15 hr
  have Dd18 : DOk PySem.Challenge.pw_homedoings_k48_folds_in_any_sequence w K mg base tg 1 "_law_net" F__law_net := def_ok Fd18 sc__law_net (PySem.W.mg_of X G ad18) Bd18 fun cdv A outer s H E hr => b__law_net T  hr
  have Dd19 : DOk PySem.Challenge.pw_homedoings_k48_folds_in_any_sequence w K mg base tg 1 "_law_undone" F__law_undone := def_ok Fd19 sc__law_undone (PySem.W.mg_of X G ad19) Bd19 fun cdv A outer s H E hr => b__law_undone T  hr
  have Dd20 : DOk PySem.Challenge.pw_homedoings_k48_folds_in_any_sequence w K mg base tg 3 "_law_doing" F__law_doing := def_ok Fd20 sc__law_doing (PySem.W.mg_of X G ad20) Bd20 fun cdv A outer s H E hr => b__law_doing T Dd18 Dd16 Dd15 hr
  have Dd21 : DOk PySem.Challenge.pw_homedoings_k48_folds_in_any_sequence w K mg base tg 4 "_law_doings" F__law_doings := def_ok Fd21 sc__law_doings (PySem.W.mg_of X G ad21) Bd21 fun cdv A outer s H E hr => b__law_doings T Dd20 Dd18 Dd16 Dd15 Dd19 hr
  have Dd22 : DOk PySem.Challenge.pw_homedoings_k48_folds_in_any_sequence w K mg base tg 1 "_law_rose" F__law_rose := def_ok Fd22 sc__law_rose (PySem.W.mg_of X G ad22) Bd22 fun cdv A outer s H E hr => b__law_rose T  hr
  have Dd23 : DOk PySem.Challenge.pw_homedoings_k48_folds_in_any_sequence w K mg base tg 1 "_law_couples" F__law_couples := def_ok Fd23 sc__law_couples (PySem.W.mg_of X G ad23) Bd23 fun cdv A outer s H E hr => b__law_couples T  hr
  have Dd24 : DOk PySem.Challenge.pw_homedoings_k48_folds_in_any_sequence w K mg base tg 1 "_law_merged" F__law_merged := def_ok Fd24 sc__law_merged (PySem.W.mg_of X G ad24) Bd24 fun cdv A outer s H E hr => b__law_merged T  hr
  have Dd25 : DOk PySem.Challenge.pw_homedoings_k48_folds_in_any_sequence w K mg base tg 3 "_law_folded" F__law_folded := def_ok Fd25 sc__law_folded (PySem.W.mg_of X G ad25) Bd25 fun cdv A outer s H E hr => b__law_folded T Dd23 Dd24 Dd16 Dd15 hr
  have Dd26 : DOk PySem.Challenge.pw_homedoings_k48_folds_in_any_sequence w K mg base tg 1 "_law_signs" F__law_signs := def_ok Fd26 sc__law_signs (PySem.W.mg_of X G ad26) Bd26 fun cdv A outer s H E hr => b__law_signs T  hr
  have Dd27 : DOk PySem.Challenge.pw_homedoings_k48_folds_in_any_sequence w K mg base tg 1 "_law_on" F__law_on := def_ok Fd27 sc__law_on (PySem.W.mg_of X G ad27) Bd27 fun cdv A outer s H E hr => b__law_on T  hr
  have Dd28 : DOk PySem.Challenge.pw_homedoings_k48_folds_in_any_sequence w K mg base tg 2 "_law_graph" F__law_graph := def_ok Fd28 sc__law_graph (PySem.W.mg_of X G ad28) Bd28 fun cdv A outer s H E hr => b__law_graph T Dd27 Dd26 hr
  have Dd29 : DOk PySem.Challenge.pw_homedoings_k48_folds_in_any_sequence w K mg base tg 1 "_law_read" F__law_read := def_ok Fd29 sc__law_read (PySem.W.mg_of X G ad29) Bd29 fun cdv A outer s H E hr => b__law_read T  hr
  have Dd30 : DOk PySem.Challenge.pw_homedoings_k48_folds_in_any_sequence w K mg base tg 3 "_law_others" F__law_others := def_ok Fd30 sc__law_others (PySem.W.mg_of X G ad30) Bd30 fun cdv A outer s H E hr => b__law_others T Dd17 Dd18 Dd16 Dd19 hr
  have J := b_law T Dd20 Dd21 Dd25 Dd28 Dd18 Dd16 Dd30 Dd15 Dd29 Dd22 Dd14 Dd19 Dd7 Dd13 Dd12 Dd10 Dd9 (cdv := .ref cl) (A := callerA) (outer := []) (s := s₁) (H := H) (E := fun _ _ _ => False) hr rfl
  have Z := end_pss T Dd7 Fd32 (PySem.W.mg_of X G ad32) Bd32 TB (A := callerA) (outer := []) (s := s₁) (H := H) (E := fun _ _ _ => False) hr rfl
  refine ⟨_, pss_app (a := (defBody s_law).take 17) (b := (defBody s_law).drop 17) J Z, ?_⟩
  exact last_read (K := K) hlen hP hS
end K48
set_option Elab.async false
set_option linter.all false
open PySem PySem.W PyProof.Rows in
set_option maxRecDepth 100000 in
set_option maxHeartbeats 0 in
theorem PySem.Challenge.cw_homedoings_k48_folds_in_any_sequence_holds : PySem.Challenge.rw_homedoings_k48_folds_in_any_sequence.Holds := by
  w_on; o_law; k_head; (case hw => w_witness2)
  k_fill
  refine Hx.walk_G (l := PySem.Challenge.rw_homedoings_k48_folds_in_any_sequence) (n := 63) (k := 6) (x := "script") (CX := fun w => L2.CX PySem.Challenge.pw_homedoings_k48_folds_in_any_sequence w) rfl (by decide) rfl ⟨rfl, by decide, by decide⟩ rfl (fun w h Y => by first | exact PySem.W.km_in_of Y | exact PySem.W.kIn_of Y) ?F ?C
  case F =>
    intro w mg fa h Y KX G hmg
    refine' K48.all_mk KX G hmg ?ad0 ?ld0 ?cd0 ?kd0 ?ad1 ?ld1 ?cd1 ?kd1 ?ad2 ?ld2 ?cd2 ?kd2 ?ad3 ?ld3 ?cd3 ?kd3 ?ad4 ?ld4 ?cd4 ?kd4 ?ad5 ?ld5 ?cd5 ?kd5 ?ad6 ?ld6 ?cd6 ?kd6 ?ad7 ?ld7 ?cd7 ?kd7 ?ad8 ?ld8 ?cd8 ?kd8 ?ad9 ?ld9 ?cd9 ?kd9 ?ad10 ?ld10 ?cd10 ?kd10 ?ad11 ?ld11 ?cd11 ?kd11 ?ad12 ?ld12 ?cd12 ?kd12 ?ad13 ?ld13 ?cd13 ?kd13 ?ad14 ?ld14 ?cd14 ?kd14 ?ad15 ?ld15 ?cd15 ?kd15 ?ad16 ?ld16 ?cd16 ?kd16 ?ad17 ?ld17 ?cd17 ?kd17 ?ad18 ?ld18 ?cd18 ?kd18 ?ad19 ?ld19 ?cd19 ?kd19 ?ad20 ?ld20 ?cd20 ?kd20 ?ad21 ?ld21 ?cd21 ?kd21 ?ad22 ?ld22 ?cd22 ?kd22 ?ad23 ?ld23 ?cd23 ?kd23 ?ad24 ?ld24 ?cd24 ?kd24 ?ad25 ?ld25 ?cd25 ?kd25 ?ad26 ?ld26 ?cd26 ?kd26 ?ad27 ?ld27 ?cd27 ?kd27 ?ad28 ?ld28 ?cd28 ?kd28 ?ad29 ?ld29 ?cd29 ?kd29 ?ad30 ?ld30 ?cd30 ?kd30 ?ad31 ?ld31 ?cd31 ?kd31 ?ad32 ?ld32 ?cd32 ?kd32 ?z0 ?z1 ?z2 ?z3 ?z4 ?z5 ?z6 ?z7 ?z8 ?z9 ?z10 ?z11 ?y0 ?y1 ?ecl ?tl ?tv ?nT ?aC ?xL ?xb ?sa ?ga ?gg ?nb ?iC ?tC ?kC ?exC ?veC ?slC ?tyC ?hdC ?te ?su ?opq ?fl ?fc ?fd ?fe ?ff ?fg
    (case ad0 => k_is)
    (case ld0 => k_is)
    (case cd0 => k_is)
    (case kd0 => k_is)
    (case ad1 => k_is)
    (case ld1 => k_is)
    (case cd1 => k_is)
    (case kd1 => k_is)
    (case ad2 => k_is)
    (case ld2 => k_is)
    (case cd2 => k_is)
    (case kd2 => k_is)
    (case ad3 => k_is)
    (case ld3 => k_is)
    (case cd3 => k_is)
    (case kd3 => k_is)
    (case ad4 => k_is)
    (case ld4 => k_is)
    (case cd4 => k_is)
    (case kd4 => k_is)
    (case ad5 => k_is)
    (case ld5 => k_is)
    (case cd5 => k_is)
    (case kd5 => k_is)
    (case ad6 => k_is)
    (case ld6 => k_is)
    (case cd6 => k_is)
    (case kd6 => k_is)
    (case ad7 => k_is)
    (case ld7 => k_is)
    (case cd7 => k_is)
    (case kd7 => k_is)
    (case ad8 => k_is)
    (case ld8 => k_is)
    (case cd8 => k_is)
    (case kd8 => k_is)
    (case ad9 => k_is)
    (case ld9 => k_is)
    (case cd9 => k_is)
    (case kd9 => k_is)
    (case ad10 => k_is)
    (case ld10 => k_is)
    (case cd10 => k_is)
    (case kd10 => k_is)
    (case ad11 => k_is)
    (case ld11 => k_is)
    (case cd11 => k_is)
    (case kd11 => k_is)
    (case ad12 => k_is)
    (case ld12 => k_is)
    (case cd12 => k_is)
    (case kd12 => k_is)
    (case ad13 => k_is)
    (case ld13 => k_is)
    (case cd13 => k_is)
    (case kd13 => k_is)
    (case ad14 => k_is)
    (case ld14 => k_is)
    (case cd14 => k_is)
    (case kd14 => k_is)
    (case ad15 => k_is)
    (case ld15 => k_is)
    (case cd15 => k_is)
    (case kd15 => k_is)
    (case ad16 => k_is)
    (case ld16 => k_is)
    (case cd16 => k_is)
    (case kd16 => k_is)
    (case ad17 => k_is)
    (case ld17 => k_is)
    (case cd17 => k_is)
    (case kd17 => k_is)
    (case ad18 => k_is)
    (case ld18 => k_is)
    (case cd18 => k_is)
    (case kd18 => k_is)
    (case ad19 => k_is)
    (case ld19 => k_is)
    (case cd19 => k_is)
    (case kd19 => k_is)
    (case ad20 => k_is)
    (case ld20 => k_is)
    (case cd20 => k_is)
    (case kd20 => k_is)
    (case ad21 => k_is)
    (case ld21 => k_is)
    (case cd21 => k_is)
    (case kd21 => k_is)
    (case ad22 => k_is)
    (case ld22 => k_is)
    (case cd22 => k_is)
    (case kd22 => k_is)
    (case ad23 => k_is)
    (case ld23 => k_is)
    (case cd23 => k_is)
    (case kd23 => k_is)
    (case ad24 => k_is)
    (case ld24 => k_is)
    (case cd24 => k_is)
    (case kd24 => k_is)
    (case ad25 => k_is)
    (case ld25 => k_is)
    (case cd25 => k_is)
    (case kd25 => k_is)
    (case ad26 => k_is)
    (case ld26 => k_is)
    (case cd26 => k_is)
    (case kd26 => k_is)
    (case ad27 => k_is)
    (case ld27 => k_is)
    (case cd27 => k_is)
    (case kd27 => k_is)
    (case ad28 => k_is)
    (case ld28 => k_is)
    (case cd28 => k_is)
    (case kd28 => k_is)
    (case ad29 => k_is)
    (case ld29 => k_is)
    (case cd29 => k_is)
    (case kd29 => k_is)
    (case ad30 => k_is)
    (case ld30 => k_is)
    (case cd30 => k_is)
    (case kd30 => k_is)
    (case ad31 => k_is)
    (case ld31 => k_is)
    (case cd31 => k_is)
    (case kd31 => k_is)
    (case ad32 => k_is)
    (case ld32 => k_is)
    (case cd32 => k_is)
    (case kd32 => k_is)
    (case z0 => k_is)
    (case z1 => k_is)
    (case z2 => k_is)
    (case z3 => k_is)
    (case z4 => k_is)
    (case z5 => k_is)
    (case z6 => k_is)
    (case z7 => k_is)
    (case z8 => k_is)
    (case z9 => k_is)
    (case z10 => k_is)
    (case z11 => k_is)
    (case y0 => k_is)
    (case y1 => k_is)
    (case ecl => rfl)
    (case tl => k_is)
    (case tv => rfl)
    (case nT => first | kernel_rfl | rfl | with_unfolding_all rfl)
    (case aC => k_is)
    (case xL => k_is)
    (case xb => first | rfl | decide +kernel)
    (case sa => k_is)
    (case ga => k_is)
    (case gg => k_is)
    (case nb => k_is)
    (case iC => k_is)
    (case tC => k_is)
    (case kC => k_is)
    (case exC => k_is)
    (case veC => k_is)
    (case slC => first | k_is | kernel_rfl | rfl)
    (case tyC => k_is)
    (case hdC => k_is)
    (case te => exact K48.exm_own (by k_is) (by k_is) (by k_is) (by first | rfl | k_is))
    (case su => ks_is)
    (case opq => k_is)
    (case fl => k_is)
    (case fc => k_is)
    (case fd => k_is)
    (case fe => rfl)
    (case ff => first | rfl | decide +kernel)
    (case fg => k_is)
  case C =>
    intro w H s e s' z
    obtain ⟨_, _, _, _, _, _, _, _, _, _, _, _, z⟩ := z
    exact z.elim
